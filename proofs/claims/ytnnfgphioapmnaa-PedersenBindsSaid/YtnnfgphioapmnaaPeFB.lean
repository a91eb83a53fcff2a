/- Walks: integer.Sub of long numbers; modular.Inverse of a number that has none. -/
import Derived.Test.YtnnfgphioapmnaaPeY
import Derived.Test.YtnnfgphioapmnaaPeEB
set_option linter.unusedVariables false
set_option linter.unusedSimpArgs false
namespace Go.Proofs.Ytnnfgphioapmnaa
open Go.RowKit

set_option maxRecDepth 100000 in
set_option maxHeartbeats 1000000 in
theorem int_SubH (x y : Int) (hx : x.natAbs < 256 ^ 100) (hy : y.natAbs < 256 ^ 100) (w : World) : Calls Try.prog 17 #[intV x, intV y] w (Ret (.tuple #[intV (x - y), .int .i64 0]) w) := by
  have HBO := Lib.hid (int_both x y (lt128_h hx) (lt128_h hy))
  have HNG := Lib.hid (int_Neg y (lt128_h hy))
  have HAD := Lib.hid (int_AddH x (-y) hx (by rw [Int.natAbs_neg]; exact hy))
  rw [← Int.sub_eq_add_neg] at HAD
  unfold intV zV at *
  obtain ⟨a, ha⟩ : ∃ a, decide (x < 0) = a := ⟨_, rfl⟩
  obtain ⟨b, hb⟩ : ∃ b, decide (y < 0) = b := ⟨_, rfl⟩
  obtain ⟨s, hs⟩ : ∃ s, nS x.natAbs = s := ⟨_, rfl⟩
  obtain ⟨t, ht⟩ : ∃ t, nS y.natAbs = t := ⟨_, rfl⟩
  obtain ⟨c, hc⟩ : ∃ c, decide (x - y < 0) = c := ⟨_, rfl⟩
  obtain ⟨r, hr⟩ : ∃ r, nS (x - y).natAbs = r := ⟨_, rfl⟩
  obtain ⟨d, hd⟩ : ∃ d, decide (-y < 0) = d := ⟨_, rfl⟩
  obtain ⟨q, hq⟩ : ∃ q, nS (-y).natAbs = q := ⟨_, rfl⟩
  rw [ha, hs, hb, ht] at HBO
  rw [hb, ht, hd, hq] at HNG
  rw [ha, hs, hd, hq, hc, hr] at HAD
  rw [ha, hs, hb, ht, hc, hr]
  clear ha hs hb ht hc hr hq hd hx hy
  go_enter Try.func17, Try.ntmps17
  go_wp2_with fail
  obtain ⟨W0, hW0⟩ : ∃ W0, ((w.alloc (.cells #[.bool a, .string s] 38)).alloc (.cells #[.bool b, .string t] 38)).alloc (.cells #[.bool false, .string ⟨#[]⟩] 38) = W0 := ⟨_, rfl⟩
  have HX0 := Lib.hid (show Bx2 W0 w.heap.size (.bool a) (.string s) 38 from by
    rw [← hW0]
    exact ((Bx2.new w (.bool a) (.string s) 38).kept ((Below.refl _ _).alloc (Nat.le_refl _) _) (by simp)).kept ((Below.refl _ _).alloc (Nat.le_refl _) _) (by simp; omega))
  have HY0 := Lib.hid (show Bx2 W0 (w.heap.size + 1) (.bool b) (.string t) 38 from by
    rw [← hW0]
    have := Bx2.new (w.alloc (.cells #[.bool a, .string s] 38)) (.bool b) (.string t) 38
    rw [World.size_alloc] at this
    exact this.kept ((Below.refl _ _).alloc (Nat.le_refl _) _) (by simp))
  have HZ0 := Lib.hid (show Bx2 W0 (w.heap.size + 1 + 1) (.bool false) (.string ⟨#[]⟩) 38 from by
    rw [← hW0]
    have := Bx2.new ((w.alloc (.cells #[.bool a, .string s] 38)).alloc (.cells #[.bool b, .string t] 38)) (.bool false) (.string ⟨#[]⟩) 38
    rw [World.size_alloc, World.size_alloc] at this
    exact this)
  have HB0 := Lib.hid (show Below w.heap.size w W0 from by
    rw [← hW0]
    exact (((Below.refl w.heap.size w).alloc (Nat.le_refl _) _).alloc (by simp) _).alloc (by simp; omega) _)
  rw [hW0]
  clear hW0
  refine (HBO.out _).mono ?_
  rintro e w1 ⟨rfl, hb1⟩
  have hX1 := HX0.out.next hb1
  have hY1 := HY0.out.next hb1
  have hZ1 := HZ0.out.next hb1
  have HX1 := Lib.hid hX1
  have HY1 := Lib.hid hY1
  have HZ1 := Lib.hid hZ1
  have HB1 := Lib.hid (HB0.out.trans (hb1.mono HB0.out.size))
  have x0 := hX1.c0
  have x1 := hX1.c1
  have y0 := hY1.c0
  have y1 := hY1.c1
  have xf0 := hX1.f0
  have xf1 := hX1.f1
  have yf0 := hY1.f0
  have yf1 := hY1.f1
  have z0 := hZ1.c0
  have z1 := hZ1.c1
  have zf0 := hZ1.f0
  have zf1 := hZ1.f1
  clear hb1 hX1 hY1 hZ1
  go_wp2
  have hX1d : Bx2 w1.drew w.heap.size (.bool a) (.string s) 38 := HX1.out
  have hY1d : Bx2 w1.drew (w.heap.size + 1) (.bool b) (.string t) 38 := HY1.out
  have hZ1d : Bx2 w1.drew (w.heap.size + 1 + 1) (.bool false) (.string ⟨#[]⟩) 38 := HZ1.out
  clear x0 x1 y0 y1 xf0 xf1 yf0 yf1 z0 z1 zf0 zf1
  have x0 := hX1d.c0
  have x1 := hX1d.c1
  have y0 := hY1d.c0
  have y1 := hY1d.c1
  have HZD := Lib.hid hZ1d
  clear hX1d hY1d hZ1d
  refine wp_region_K 6 (Below (w1.drew).heap.size (w1.drew)) (by kernel_rfl) ?_
  intro hD
  refine wpAnyK_take (i := 0) (v := ?v3_0b1) (fuel := 7) rfl (by kernel_rfl) (by kernel_rfl) (fun _ _ _ h => h) hD (Below.refl _ _) (.inl ⟨by kernel_rfl, ?y3_0b1⟩) ?n3_0b1
  case y3_0b1 => intro w' hS'; have e0 := cell_kept hS' (Nat.le_refl _) x0; have e1 := cell_kept hS' (Nat.le_refl _) x1; have e2 := cell_kept hS' (Nat.le_refl _) y0; have e3 := cell_kept hS' (Nat.le_refl _) y1; go_simp; with_reducible rfl
  clear hD; intro hD
  simp only [Act.put, List.setIfInBounds_toArray, List.set_cons_zero, List.set_cons_succ]
  refine wpAnyK_take (i := 1) (v := ?v3_1b1) (fuel := 6) rfl (by kernel_rfl) (by kernel_rfl) (fun _ _ _ h => h) hD (Below.refl _ _) (.inl ⟨by kernel_rfl, ?y3_1b1⟩) ?n3_1b1
  case y3_1b1 => intro w' hS'; have e0 := cell_kept hS' (Nat.le_refl _) x0; have e1 := cell_kept hS' (Nat.le_refl _) x1; have e2 := cell_kept hS' (Nat.le_refl _) y0; have e3 := cell_kept hS' (Nat.le_refl _) y1; go_simp; with_reducible rfl
  clear hD; intro hD
  simp only [Act.put, List.setIfInBounds_toArray, List.set_cons_zero, List.set_cons_succ]
  refine wpAnyK_one (i := 2) (fuel := 5) (by kernel_rfl) rfl hD ?_
  clear hD; intro K2 hK2
  go_wp2_with fail
  refine (HNG.out _).mono ?_
  rintro e w2 ⟨rfl, hb2⟩
  have HB2 := Lib.hid hb2
  clear hb2
  go_wp2
  refine hK2 _ _ (by exact HB2.out) ?_; clear hK2; intro hS_3_2 hD
  refine wpAnyK_one (i := 3) (fuel := 4) (by kernel_rfl) rfl hD ?_
  clear hD; intro K3 hK3
  go_wp2_with fail
  refine (HAD.out _).mono ?_
  rintro e w3 ⟨rfl, hb3⟩
  have HB3 := Lib.hid hb3
  have hZ3 := (HZD.out.next HB2.out).next hb3
  have z0 := hZ3.c0
  have z1 := hZ3.c1
  have zf0 := hZ3.f0
  have zf1 := hZ3.f1
  have HZ3 := Lib.hid hZ3
  clear hb3 hZ3
  go_wp2
  refine hK3 _ _ (by exact Below.trans hS_3_2 (Below.mono HB3.out (Below.size hS_3_2))) ?_; clear hK3; intro hS_3_3 hD
  refine wpAnyK_pure (i := 4) (v := ?v3_4b1) (fuel := 3) rfl (by kernel_rfl) (fun _ _ _ h => h) hD hS_3_3 (.inl ⟨by kernel_rfl, ?y3_4b1⟩) ?n3_4b1
  case y3_4b1 => intro w' _; go_simp; with_reducible rfl
  clear hD; intro hD
  simp only [Act.put, List.setIfInBounds_toArray, List.set_cons_zero, List.set_cons_succ]
  refine wpAnyK_pure (i := 5) (v := ?v3_5b1) (fuel := 2) rfl (by kernel_rfl) (fun _ _ _ h => h) hD hS_3_3 (.inl ⟨by kernel_rfl, ?y3_5b1⟩) ?n3_5b1
  case y3_5b1 => intro w' _; go_simp; with_reducible rfl
  clear hD; intro hD
  simp only [Act.put, List.setIfInBounds_toArray, List.set_cons_zero, List.set_cons_succ]
  refine wpAnyK_oneT (i := 6) (fuel := 1) (by kernel_rfl) rfl hD (by kernel_rfl) ?_
  clear hD; intro K6 hK6
  go_wp2
  refine hK6 _ _ ?_; clear hK6; intro hD
  refine wpAnyK_oneT (i := 7) (fuel := 0) (by kernel_rfl) rfl hD (by kernel_rfl) ?_
  clear hD; intro K7 hK7
  go_wp2
  refine hK7 _ _ ?_; clear hK7; intro hD
  refine wpAnyK_done (by kernel_rfl) ?_ 0
  clear hD
  have HB4 := Lib.hid ((HB1.out.drew.trans (HB2.out.mono (by exact HB1.out.size))).trans (HB3.out.mono (Nat.le_trans (show w.heap.size ≤ w1.drew.heap.size from HB1.out.size) HB2.out.size)))
  go_wp2
  have HZ4 := HZ3
  have hZz := HZ4.out.set2 (u := .bool c) (v := .string r)
  have q0 := hZz.c0
  have q1 := hZz.c1
  exact bodyPost_ret (v := .tuple #[.agg #[.bool c, .string r], .int .i64 0]) (by simp [results, Try.results17, go_sem, q0, q1]) rfl ⟨rfl, (HB4.out.setCell (p := ⟨w.heap.size + 1 + 1, 0, none⟩) (by simp; omega) _).setCell (p := ⟨w.heap.size + 1 + 1, 1, none⟩) (by simp; omega) _⟩
set_option maxRecDepth 100000 in
set_option maxHeartbeats 1000000 in
theorem mod_Inverse_none (a m : Nat) (ham : a < m) (hm8 : m < 18446744073709551616) (h1 : 1 < m) (hg : ¬ (Nat.gcd a m = 1)) (w : World) : Calls Try.prog 19 #[.string (nS a), .string (nS m)] w (Ret (.tuple #[.string ⟨#[]⟩, .int .i64 9]) w) := by
  have ha8 : a < 18446744073709551616 := by omega
  have HC := Lib.hid (fun w => check_one w (nS a) (nS m) _ rfl (nS_valid_small ha8) (nS_valid_small hm8) (empty_nS (by omega)) _ rfl)
  have HR := Lib.hid (mod_reduced a m ha8 (lt128_of_lt8 hm8) (by omega))
  rw [Nat.mod_eq_of_lt ham] at HR
  have HE := Lib.hid (int_Extended a m ham hm8)
  have hne : ((nS (Nat.gcd a m)).toList == [1]) = false := by rw [nS_is1]; exact decide_eq_false hg
  obtain ⟨gs, hgs⟩ : ∃ g, nS (Nat.gcd a m) = g := ⟨_, rfl⟩
  rw [hgs] at hne
  have HGS := Lib.hid hgs
  obtain ⟨s, hs⟩ : ∃ s, nS a = s := ⟨_, rfl⟩
  obtain ⟨t, ht⟩ : ∃ t, nS m = t := ⟨_, rfl⟩
  rw [hs, ht] at HC HR HE
  rw [hs, ht]
  clear hs ht ham hm8 h1 hg ha8 hgs
  go_enter Try.func19, Try.ntmps19
  go_wp2_with fail
  refine (HC.out w).mono ?_
  rintro e w1 ⟨rfl, hb1⟩
  have HB1 := Lib.hid ((((Below.refl w.heap.size w).alloc (Nat.le_refl _) _).alloc (by simp) _).trans hb1)
  clear hb1
  go_wp2_with fail
  refine (HR.out _).mono ?_
  rintro e w2 ⟨rfl, hb2⟩
  have HB2 := Lib.hid (HB1.out.trans (hb2.mono HB1.out.size))
  clear hb2
  go_wp2_with fail
  refine (HE.out _).mono ?_
  rintro e w3 ⟨x, y, rfl, hb3, hx0, hx8, hbz⟩
  have HB3 := Lib.hid (HB2.out.trans (hb3.mono HB2.out.size))
  rw [HGS.out]
  unfold intV zV
  obtain ⟨u, hu⟩ : ∃ u, nS x.natAbs = u := ⟨_, rfl⟩
  obtain ⟨dx, hdx⟩ : ∃ dx, decide (x < 0) = dx := ⟨_, rfl⟩
  obtain ⟨dy, hdy⟩ : ∃ dy, decide (y < 0) = dy := ⟨_, rfl⟩
  obtain ⟨v, hv⟩ : ∃ v, nS y.natAbs = v := ⟨_, rfl⟩
  rw [hu, hdx, hdy, hv]
  clear hb3 hbz hx0 hx8 hu hdx hdy hv
  have HB4 := Lib.hid ((HB3.out.alloc HB3.out.size (.cells #[.bool dx, .string u] 38)).alloc (by have := HB3.out.size; simp; omega) (.cells #[.bool dy, .string v] 38))
  go_wp2
  go_ret2
  exact ⟨rfl, by first | exact HB4.out | exact HB3.out⟩
end Go.Proofs.Ytnnfgphioapmnaa
/- The law PedersenOpens. -/
set_option linter.unusedVariables false
set_option linter.unusedSimpArgs false
namespace Go.Proofs.Ytnnfgphioapmnaa
open Go.RowKit

theorem few14_of3 {M O G H : ByteArray} (h : few14 M O G H = true) : M.size ≤ 8 ∧ O.size ≤ 8 ∧ G.size ≤ 9 ∧ H.size ≤ 9 := by
  unfold few14 at h
  simp only [Bool.and_eq_true, decide_eq_true_eq] at h
  exact h
theorem shortZ_five {b1 b2 b3 b4 b5 : Bool} {s1 s2 s3 s4 s5 : ByteArray} (h : shortZ [(b1, s1), (b2, s2), (b3, s3), (b4, s4), (b5, s5)] = true) : s1.size ≤ 16 ∧ s2.size ≤ 16 ∧ s3.size ≤ 16 ∧ s4.size ≤ 16 ∧ s5.size ≤ 16 := by
  unfold shortZ at h
  simp only [List.all_cons, List.all_nil, Bool.and_true, Bool.and_eq_true, decide_eq_true_eq] at h
  exact h
theorem slz_alloc5 (w : World) (b1 b2 b3 b4 b5 : Bool) (s1 s2 s3 s4 s5 : ByteArray) (T : TypeId) : SlZ (w.alloc (.cells #[.bool b1, .string s1, .bool b2, .string s2, .bool b3, .string s3, .bool b4, .string s4, .bool b5, .string s5] T)) (some ⟨w.heap.size, 0, none⟩) 5 5 [(b1, s1), (b2, s2), (b3, s3), (b4, s4), (b5, s5)] := by
  have h := heap_alloc_new w (.cells #[.bool b1, .string s1, .bool b2, .string s2, .bool b3, .string s3, .bool b4, .string s4, .bool b5, .string s5] T)
  refine ⟨rfl, Nat.le_refl _, by omega, w.heap.size, 0, fun _ => rfl, fun k z hk => ?_⟩
  match k, hk with
  | 0, hk => cases hk; exact ⟨by rw [Lib.cell_of_heap h]; rfl, by rw [Lib.cell_of_heap h]; rfl⟩
  | 1, hk => cases hk; exact ⟨by rw [Lib.cell_of_heap h]; rfl, by rw [Lib.cell_of_heap h]; rfl⟩
  | 2, hk => cases hk; exact ⟨by rw [Lib.cell_of_heap h]; rfl, by rw [Lib.cell_of_heap h]; rfl⟩
  | 3, hk => cases hk; exact ⟨by rw [Lib.cell_of_heap h]; rfl, by rw [Lib.cell_of_heap h]; rfl⟩
  | 4, hk => cases hk; exact ⟨by rw [Lib.cell_of_heap h]; rfl, by rw [Lib.cell_of_heap h]; rfl⟩
theorem cm_bad {M O G H : ByteArray} {vb rb : Bool} {vt rt : ByteArray} (h : (zvalid vb vt && zvalid rb rt) = false) : cmR M O G H vb vt rb rt = .tuple #[.string ⟨#[]⟩, .int .i64 3] := by
  unfold cmR
  rw [h, Bool.and_false, if_pos rfl]
theorem cm_ok {M O G H : ByteArray} (hc : pkC M O G H = 0) {vb rb : Bool} {vt rt : ByteArray} (h : (zvalid vb vt && zvalid rb rt) = true) : ∃ s, cmR M O G H vb vt rb rt = .tuple #[.string s, .int .i64 0] := by
  obtain ⟨y0, y1⟩ := Bool.and_eq_true_iff.1 h
  obtain ⟨p1, p2, p3⟩ := zv_parts y0
  obtain ⟨p4, p5, p6⟩ := zv_parts y1
  generalize sg vb (num vt) = v at *
  generalize sg rb (num rt) = r at *
  subst p1 p2 p4 p5
  exact ⟨_, cm_int hc p3 p6⟩
/-- The sum's and the product's bounds. -/
theorem lt16_128 {z : Int} (h : z.natAbs < 256 ^ 16) : z.natAbs < 256 ^ 128 := Nat.lt_of_lt_of_le h (Nat.pow_le_pow_right (by decide) (by decide))
theorem add16 {x y : Int} (hx : x.natAbs < 256 ^ 16) (hy : y.natAbs < 256 ^ 16) : (x + y).natAbs < 256 ^ 128 := by
  have h1 : (256 : Nat) ^ 16 * 2 ≤ 256 ^ 128 := by decide +kernel
  omega
theorem mul16 {x y : Int} (hx : x.natAbs < 256 ^ 16) (hy : y.natAbs < 256 ^ 16) : (x * y).natAbs < 256 ^ 128 := by
  rw [Int.natAbs_mul]
  have h1 : (256 : Nat) ^ 16 * 256 ^ 16 ≤ 256 ^ 128 := by decide +kernel
  exact Nat.lt_of_lt_of_le (Nat.mul_lt_mul'' hx hy) h1
theorem redZ_small {o : Nat} {z : Int} (ho : o < 256 ^ 128) (hz : z.natAbs < 256 ^ 128) : (redZ o z).natAbs < 256 ^ 128 := by
  unfold redZ
  split
  · exact hz
  · have h1 := Int.emod_nonneg z (show (o : Int) ≠ 0 by omega)
    have h2 := Int.emod_lt_of_pos z (show (0 : Int) < (o : Int) by omega)
    omega
theorem smZ_in {o : Nat} {z1 z2 : Int} (h1 : z1.natAbs < 256 ^ 128) (h2 : z2.natAbs < 256 ^ 128) : smZ o z1 z2 = .tuple #[arV (redZ o z1) (redZ o z2), .int .i64 0] := by unfold smZ; rw [if_pos ⟨h1, h2⟩]

theorem sz1000 {M O G H : ByteArray} (hc : pkC M O G H = 0) {x : Nat} (h : x < num M) : (nS x).size ≤ 1000 := by
  have := nS_size_le.2 (Nat.lt_trans h (num_smallK hc))
  omega
/-- Eight values in a block. -/
def Bx8 (W : World) (B : Nat) (x0 x1 x2 x3 x4 x5 x6 x7 : Value) (T : TypeId) : Prop := W.heap[B]? = some (.cells #[x0, x1, x2, x3, x4, x5, x6, x7] T (0, 0))
theorem Bx8.lt {W : World} {B : Nat} {x0 x1 x2 x3 x4 x5 x6 x7 : Value} {T : TypeId} (h : Bx8 W B x0 x1 x2 x3 x4 x5 x6 x7 T) : B < W.heap.size := block_lt h
theorem Bx8.next {W W' : World} {B : Nat} {x0 x1 x2 x3 x4 x5 x6 x7 : Value} {T : TypeId} (h : Bx8 W B x0 x1 x2 x3 x4 x5 x6 x7 T) (hb : Below W.heap.size W W') : Bx8 W' B x0 x1 x2 x3 x4 x5 x6 x7 T := (hb.block B h.lt).trans h
theorem Bx8.cells {W : World} {B : Nat} {x0 x1 x2 x3 x4 x5 x6 x7 : Value} {T : TypeId} (h : Bx8 W B x0 x1 x2 x3 x4 x5 x6 x7 T) : W.cell? ⟨B, 0, none⟩ = some x0 ∧ W.cell? ⟨B, 1, none⟩ = some x1 ∧ W.cell? ⟨B, 2, none⟩ = some x2 ∧ W.cell? ⟨B, 3, none⟩ = some x3 ∧ W.cell? ⟨B, 4, none⟩ = some x4 ∧ W.cell? ⟨B, 5, none⟩ = some x5 ∧ W.cell? ⟨B, 6, none⟩ = some x6 ∧ W.cell? ⟨B, 7, none⟩ = some x7 := by
  refine ⟨?_, ?_, ?_, ?_, ?_, ?_, ?_, ?_⟩ <;> (rw [Lib.cell_of_heap h]; rfl)
/-- A key, two openings and an integer. -/
def KU (w W : World) (M O G H : ByteArray) (a0 : Bool) (a1 : ByteArray) (a2 : Bool) (a3 : ByteArray) (a4 : Bool) (a5 : ByteArray) (a6 : Bool) (a7 : ByteArray) (bb : Bool) (bt : ByteArray) : Prop :=
  Bx4 W w.heap.size (.string M) (.string O) (.string G) (.string H) 26 ∧ Bx8 W (w.heap.size + 1) (.bool a0) (.string a1) (.bool a2) (.string a3) (.bool a4) (.string a5) (.bool a6) (.string a7) 46 ∧ Bx2 W (w.heap.size + 1 + 1) (.bool bb) (.string bt) 38 ∧ Below w.heap.size w W
theorem KU.new (w : World) (M O G H : ByteArray) (a0 : Bool) (a1 : ByteArray) (a2 : Bool) (a3 : ByteArray) (a4 : Bool) (a5 : ByteArray) (a6 : Bool) (a7 : ByteArray) (bb : Bool) (bt : ByteArray) : KU w (((w.alloc (.cells #[.string M, .string O, .string G, .string H] 26)).alloc (.cells #[.bool a0, .string a1, .bool a2, .string a3, .bool a4, .string a5, .bool a6, .string a7] 46)).alloc (.cells #[.bool bb, .string bt] 38)) M O G H a0 a1 a2 a3 a4 a5 a6 a7 bb bt := by
  have h1 : Below (w.alloc (.cells #[.string M, .string O, .string G, .string H] 26)).heap.size (w.alloc (.cells #[.string M, .string O, .string G, .string H] 26)) ((w.alloc (.cells #[.string M, .string O, .string G, .string H] 26)).alloc (.cells #[.bool a0, .string a1, .bool a2, .string a3, .bool a4, .string a5, .bool a6, .string a7] 46)) := (Below.refl _ _).alloc (Nat.le_refl _) _
  have h2 : Below ((w.alloc (.cells #[.string M, .string O, .string G, .string H] 26)).alloc (.cells #[.bool a0, .string a1, .bool a2, .string a3, .bool a4, .string a5, .bool a6, .string a7] 46)).heap.size ((w.alloc (.cells #[.string M, .string O, .string G, .string H] 26)).alloc (.cells #[.bool a0, .string a1, .bool a2, .string a3, .bool a4, .string a5, .bool a6, .string a7] 46)) (((w.alloc (.cells #[.string M, .string O, .string G, .string H] 26)).alloc (.cells #[.bool a0, .string a1, .bool a2, .string a3, .bool a4, .string a5, .bool a6, .string a7] 46)).alloc (.cells #[.bool bb, .string bt] 38)) := (Below.refl _ _).alloc (Nat.le_refl _) _
  refine ⟨((Bx4.new w _ _ _ _ _).next h1).next h2, ?_, ?_, (((Below.refl w.heap.size w).alloc (Nat.le_refl _) _).alloc (by simp) _).alloc (by simp; omega) _⟩
  · have h3 : Bx8 ((w.alloc (.cells #[.string M, .string O, .string G, .string H] 26)).alloc (.cells #[.bool a0, .string a1, .bool a2, .string a3, .bool a4, .string a5, .bool a6, .string a7] 46)) (w.alloc (.cells #[.string M, .string O, .string G, .string H] 26)).heap.size (.bool a0) (.string a1) (.bool a2) (.string a3) (.bool a4) (.string a5) (.bool a6) (.string a7) 46 := heap_alloc_new _ _
    have := h3.next h2
    rwa [World.size_alloc] at this
  · have := Bx2.new ((w.alloc (.cells #[.string M, .string O, .string G, .string H] 26)).alloc (.cells #[.bool a0, .string a1, .bool a2, .string a3, .bool a4, .string a5, .bool a6, .string a7] 46)) (.bool bb) (.string bt) 38
    rwa [World.size_alloc, World.size_alloc] at this
theorem KU.next {w W W' : World} {M O G H : ByteArray} {a0 : Bool} {a1 : ByteArray} {a2 : Bool} {a3 : ByteArray} {a4 : Bool} {a5 : ByteArray} {a6 : Bool} {a7 : ByteArray} {bb : Bool} {bt : ByteArray} (h : KU w W M O G H a0 a1 a2 a3 a4 a5 a6 a7 bb bt) (hb : Below W.heap.size W W') : KU w W' M O G H a0 a1 a2 a3 a4 a5 a6 a7 bb bt :=
  ⟨h.1.next hb, h.2.1.next hb, h.2.2.1.next hb, h.2.2.2.trans (hb.mono (Nat.le_of_lt h.1.lt))⟩
set_option maxRecDepth 100000 in
set_option maxHeartbeats 8000000 in
theorem walk_opens (M O G H : ByteArray) (a0 : Bool) (a1 : ByteArray) (a2 : Bool) (a3 : ByteArray) (a4 : Bool) (a5 : ByteArray) (a6 : Bool) (a7 : ByteArray) (bb : Bool) (bt : ByteArray) (w : World) : Calls Try.prog 5 #[kV M O G H, .agg #[.bool a0, .string a1, .bool a2, .string a3, .bool a4, .string a5, .bool a6, .string a7], zV bb bt] w (Ret (.bool true) w) := by
  have HAW := Lib.hid law14_awake
  have HFW := Lib.hid (law14_Few M O G H)
  cases hf : few14 M O G H with
  | false =>
    rw [hf] at HFW
    unfold kV zV at *
    clear hf
    go_enter Try.func5, Try.ntmps5
    have hk := KU.new w M O G H a0 a1 a2 a3 a4 a5 a6 a7 bb bt
    obtain ⟨W0, hW0⟩ : ∃ W, ((w.alloc (.cells #[.string M, .string O, .string G, .string H] 26)).alloc (.cells #[.bool a0, .string a1, .bool a2, .string a3, .bool a4, .string a5, .bool a6, .string a7] 46)).alloc (.cells #[.bool bb, .string bt] 38) = W := ⟨_, rfl⟩
    rw [hW0] at hk
    have HK := Lib.hid hk
    obtain ⟨c0, c1, c2, c3⟩ := hk.1.cells
    obtain ⟨e0, e1, e2, e3, e4, e5, e6, e7⟩ := hk.2.1.cells
    have b0 := hk.2.2.1.c0
    have b1 := hk.2.2.1.c1
    clear hk
    go_wp2_with fail
    try rw [hW0]
    clear hW0
    refine (HFW.out _).mono ?_
    rintro ev w1 ⟨rfl, hb⟩
    have hk := HK.out.next hb
    have HK := Lib.hid hk
    clear hb c0 c1 c2 c3 e0 e1 e2 e3 e4 e5 e6 e7 b0 b1
    obtain ⟨c0, c1, c2, c3⟩ := hk.1.cells
    obtain ⟨e0, e1, e2, e3, e4, e5, e6, e7⟩ := hk.2.1.cells
    have b0 := hk.2.2.1.c0
    have b1 := hk.2.2.1.c1
    clear hk
    go_wp2_with fail
    refine (HAW.out _).mono ?_
    rintro ev w2 ⟨rfl, hb⟩
    have hk := HK.out.next hb
    have HK := Lib.hid hk
    clear hb c0 c1 c2 c3 e0 e1 e2 e3 e4 e5 e6 e7 b0 b1
    obtain ⟨c0, c1, c2, c3⟩ := hk.1.cells
    obtain ⟨e0, e1, e2, e3, e4, e5, e6, e7⟩ := hk.2.1.cells
    have b0 := hk.2.2.1.c0
    have b1 := hk.2.2.1.c1
    clear hk
    go_wp2
    go_ret
    exact ⟨rfl, HK.out.2.2.2⟩
  | true =>
    rw [hf] at HFW
    obtain ⟨h1, h2, h3, h4⟩ := few14_of3 hf
    have HCK := Lib.hid (pk_Check M O G H h1 h2 (by omega) (by omega))
    clear hf
    by_cases hc : pkC M O G H = 0
    · have HSW := Lib.hid (fun (A : Option Addr) (w : World) (hz : SlZ w A 5 5 [(a0, a1), (a2, a3), (a4, a5), (a6, a7), (bb, bt)]) => law14_short [(a0, a1), (a2, a3), (a4, a5), (a6, a7), (bb, bt)] A 5 5 (by omega) w hz)
      rw [hc] at HCK
      cases hs : shortZ [(a0, a1), (a2, a3), (a4, a5), (a6, a7), (bb, bt)] with
      | false =>
        rw [hs] at HSW
        unfold kV zV at *
        clear h1 h2 h3 h4 hc hs
        go_enter Try.func5, Try.ntmps5
        have hk := KU.new w M O G H a0 a1 a2 a3 a4 a5 a6 a7 bb bt
        obtain ⟨W0, hW0⟩ : ∃ W, ((w.alloc (.cells #[.string M, .string O, .string G, .string H] 26)).alloc (.cells #[.bool a0, .string a1, .bool a2, .string a3, .bool a4, .string a5, .bool a6, .string a7] 46)).alloc (.cells #[.bool bb, .string bt] 38) = W := ⟨_, rfl⟩
        rw [hW0] at hk
        have HK := Lib.hid hk
        obtain ⟨c0, c1, c2, c3⟩ := hk.1.cells
        obtain ⟨e0, e1, e2, e3, e4, e5, e6, e7⟩ := hk.2.1.cells
        have b0 := hk.2.2.1.c0
        have b1 := hk.2.2.1.c1
        clear hk
        go_wp2_with fail
        try rw [hW0]
        clear hW0
        refine (HFW.out _).mono ?_
        rintro ev w1 ⟨rfl, hb⟩
        have hk := HK.out.next hb
        have HK := Lib.hid hk
        clear hb c0 c1 c2 c3 e0 e1 e2 e3 e4 e5 e6 e7 b0 b1
        obtain ⟨c0, c1, c2, c3⟩ := hk.1.cells
        obtain ⟨e0, e1, e2, e3, e4, e5, e6, e7⟩ := hk.2.1.cells
        have b0 := hk.2.2.1.c0
        have b1 := hk.2.2.1.c1
        clear hk
        go_wp2_with fail
        refine (HCK.out _).mono ?_
        rintro ev w2 ⟨rfl, hb⟩
        have hk := HK.out.next hb
        have HK := Lib.hid hk
        clear hb c0 c1 c2 c3 e0 e1 e2 e3 e4 e5 e6 e7 b0 b1
        obtain ⟨c0, c1, c2, c3⟩ := hk.1.cells
        obtain ⟨e0, e1, e2, e3, e4, e5, e6, e7⟩ := hk.2.1.cells
        have b0 := hk.2.2.1.c0
        have b1 := hk.2.2.1.c1
        clear hk
        go_wp2_with fail
        have hs2 := slz_alloc5 w2 a0 a2 a4 a6 bb a1 a3 a5 a7 bt 38
        have hb : Below w2.heap.size w2 (w2.alloc (.cells #[.bool a0, .string a1, .bool a2, .string a3, .bool a4, .string a5, .bool a6, .string a7, .bool bb, .string bt] 38)) := (Below.refl _ _).alloc (Nat.le_refl _) _
        have HSS := Lib.hid (HSW.out _ _ hs2)
        have hkk := HK.out.next hb
        clear hs2 hb
        try go_wp2_with fail
        refine HSS.out.mono ?_
        rintro ev w3 ⟨rfl, hb⟩
        have hk := hkk.next hb
        have HK := Lib.hid hk
        clear hkk
        clear hb c0 c1 c2 c3 e0 e1 e2 e3 e4 e5 e6 e7 b0 b1
        obtain ⟨c0, c1, c2, c3⟩ := hk.1.cells
        obtain ⟨e0, e1, e2, e3, e4, e5, e6, e7⟩ := hk.2.1.cells
        have b0 := hk.2.2.1.c0
        have b1 := hk.2.2.1.c1
        clear hk
        go_wp2_with fail
        refine (HAW.out _).mono ?_
        rintro ev w4 ⟨rfl, hb⟩
        have hk := HK.out.next hb
        have HK := Lib.hid hk
        clear hb c0 c1 c2 c3 e0 e1 e2 e3 e4 e5 e6 e7 b0 b1
        obtain ⟨c0, c1, c2, c3⟩ := hk.1.cells
        obtain ⟨e0, e1, e2, e3, e4, e5, e6, e7⟩ := hk.2.1.cells
        have b0 := hk.2.2.1.c0
        have b1 := hk.2.2.1.c1
        clear hk
        go_wp2
        go_ret
        exact ⟨rfl, HK.out.2.2.2⟩
      | true =>
        rw [hs] at HSW
        obtain ⟨l0, l1, l2, l3, l4⟩ := shortZ_five hs
        have HC1 := Lib.hid (pk_Commit M O G H a0 a1 a2 a3 h1 h2 (by omega) (by omega) (by omega) (by omega))
        have HC2 := Lib.hid (pk_Commit M O G H a4 a5 a6 a7 h1 h2 (by omega) (by omega) (by omega) (by omega))
        have HVB := Lib.hid (int_Valid bb bt (by omega))
        cases hv0 : (zvalid a0 a1 && zvalid a2 a3) with
        | false =>
          rw [cm_bad hv0] at HC1
          obtain ⟨cs, ce, hcf⟩ := cmR_form M O G H a4 a5 a6 a7
          rw [hcf] at HC2
          unfold kV zV oV at *
          clear h1 h2 h3 h4 hc hs l0 l1 l2 l3 l4 hv0 hcf
          go_enter Try.func5, Try.ntmps5
          have hk := KU.new w M O G H a0 a1 a2 a3 a4 a5 a6 a7 bb bt
          obtain ⟨W0, hW0⟩ : ∃ W, ((w.alloc (.cells #[.string M, .string O, .string G, .string H] 26)).alloc (.cells #[.bool a0, .string a1, .bool a2, .string a3, .bool a4, .string a5, .bool a6, .string a7] 46)).alloc (.cells #[.bool bb, .string bt] 38) = W := ⟨_, rfl⟩
          rw [hW0] at hk
          have HK := Lib.hid hk
          obtain ⟨c0, c1, c2, c3⟩ := hk.1.cells
          obtain ⟨e0, e1, e2, e3, e4, e5, e6, e7⟩ := hk.2.1.cells
          have b0 := hk.2.2.1.c0
          have b1 := hk.2.2.1.c1
          clear hk
          go_wp2_with fail
          try rw [hW0]
          clear hW0
          refine (HFW.out _).mono ?_
          rintro ev w1 ⟨rfl, hb⟩
          have hk := HK.out.next hb
          have HK := Lib.hid hk
          clear hb c0 c1 c2 c3 e0 e1 e2 e3 e4 e5 e6 e7 b0 b1
          obtain ⟨c0, c1, c2, c3⟩ := hk.1.cells
          obtain ⟨e0, e1, e2, e3, e4, e5, e6, e7⟩ := hk.2.1.cells
          have b0 := hk.2.2.1.c0
          have b1 := hk.2.2.1.c1
          clear hk
          go_wp2_with fail
          refine (HCK.out _).mono ?_
          rintro ev w2 ⟨rfl, hb⟩
          have hk := HK.out.next hb
          have HK := Lib.hid hk
          clear hb c0 c1 c2 c3 e0 e1 e2 e3 e4 e5 e6 e7 b0 b1
          obtain ⟨c0, c1, c2, c3⟩ := hk.1.cells
          obtain ⟨e0, e1, e2, e3, e4, e5, e6, e7⟩ := hk.2.1.cells
          have b0 := hk.2.2.1.c0
          have b1 := hk.2.2.1.c1
          clear hk
          go_wp2_with fail
          have hs2 := slz_alloc5 w2 a0 a2 a4 a6 bb a1 a3 a5 a7 bt 38
          have hb : Below w2.heap.size w2 (w2.alloc (.cells #[.bool a0, .string a1, .bool a2, .string a3, .bool a4, .string a5, .bool a6, .string a7, .bool bb, .string bt] 38)) := (Below.refl _ _).alloc (Nat.le_refl _) _
          have HSS := Lib.hid (HSW.out _ _ hs2)
          have hkk := HK.out.next hb
          clear hs2 hb
          try go_wp2_with fail
          refine HSS.out.mono ?_
          rintro ev w3 ⟨rfl, hb⟩
          have hk := hkk.next hb
          have HK := Lib.hid hk
          clear hkk
          clear hb c0 c1 c2 c3 e0 e1 e2 e3 e4 e5 e6 e7 b0 b1
          obtain ⟨c0, c1, c2, c3⟩ := hk.1.cells
          obtain ⟨e0, e1, e2, e3, e4, e5, e6, e7⟩ := hk.2.1.cells
          have b0 := hk.2.2.1.c0
          have b1 := hk.2.2.1.c1
          clear hk
          go_wp2_with fail
          refine (HC1.out _).mono ?_
          rintro ev w4 ⟨rfl, hb⟩
          have hk := HK.out.next hb
          have HK := Lib.hid hk
          clear hb c0 c1 c2 c3 e0 e1 e2 e3 e4 e5 e6 e7 b0 b1
          obtain ⟨c0, c1, c2, c3⟩ := hk.1.cells
          obtain ⟨e0, e1, e2, e3, e4, e5, e6, e7⟩ := hk.2.1.cells
          have b0 := hk.2.2.1.c0
          have b1 := hk.2.2.1.c1
          clear hk
          go_wp2_with fail
          refine (HC2.out _).mono ?_
          rintro ev w5 ⟨rfl, hb⟩
          have hk := HK.out.next hb
          have HK := Lib.hid hk
          clear hb c0 c1 c2 c3 e0 e1 e2 e3 e4 e5 e6 e7 b0 b1
          obtain ⟨c0, c1, c2, c3⟩ := hk.1.cells
          obtain ⟨e0, e1, e2, e3, e4, e5, e6, e7⟩ := hk.2.1.cells
          have b0 := hk.2.2.1.c0
          have b1 := hk.2.2.1.c1
          clear hk
          go_wp2_with fail
          refine (HAW.out _).mono ?_
          rintro ev w6 ⟨rfl, hb⟩
          have hk := HK.out.next hb
          have HK := Lib.hid hk
          clear hb c0 c1 c2 c3 e0 e1 e2 e3 e4 e5 e6 e7 b0 b1
          obtain ⟨c0, c1, c2, c3⟩ := hk.1.cells
          obtain ⟨e0, e1, e2, e3, e4, e5, e6, e7⟩ := hk.2.1.cells
          have b0 := hk.2.2.1.c0
          have b1 := hk.2.2.1.c1
          clear hk
          go_wp2
          go_ret
          exact ⟨rfl, HK.out.2.2.2⟩
        | true =>
          obtain ⟨y0, y1⟩ := Bool.and_eq_true_iff.1 hv0
          obtain ⟨p1, p2, p3⟩ := zv_parts y0
          obtain ⟨p4, p5, p6⟩ := zv_parts y1
          have hC1 := cm_ok hc hv0
          cases hv1 : (zvalid a4 a5 && zvalid a6 a7) with
          | false =>
            obtain ⟨cs, hcf⟩ := hC1
            rw [hcf] at HC1
            rw [cm_bad hv1] at HC2
            unfold kV zV oV at *
            clear h1 h2 h3 h4 hc hs l0 l1 l2 l3 l4 hv0 hv1 hcf y0 y1 p1 p2 p3 p4 p5 p6
            go_enter Try.func5, Try.ntmps5
            have hk := KU.new w M O G H a0 a1 a2 a3 a4 a5 a6 a7 bb bt
            obtain ⟨W0, hW0⟩ : ∃ W, ((w.alloc (.cells #[.string M, .string O, .string G, .string H] 26)).alloc (.cells #[.bool a0, .string a1, .bool a2, .string a3, .bool a4, .string a5, .bool a6, .string a7] 46)).alloc (.cells #[.bool bb, .string bt] 38) = W := ⟨_, rfl⟩
            rw [hW0] at hk
            have HK := Lib.hid hk
            obtain ⟨c0, c1, c2, c3⟩ := hk.1.cells
            obtain ⟨e0, e1, e2, e3, e4, e5, e6, e7⟩ := hk.2.1.cells
            have b0 := hk.2.2.1.c0
            have b1 := hk.2.2.1.c1
            clear hk
            go_wp2_with fail
            try rw [hW0]
            clear hW0
            refine (HFW.out _).mono ?_
            rintro ev w1 ⟨rfl, hb⟩
            have hk := HK.out.next hb
            have HK := Lib.hid hk
            clear hb c0 c1 c2 c3 e0 e1 e2 e3 e4 e5 e6 e7 b0 b1
            obtain ⟨c0, c1, c2, c3⟩ := hk.1.cells
            obtain ⟨e0, e1, e2, e3, e4, e5, e6, e7⟩ := hk.2.1.cells
            have b0 := hk.2.2.1.c0
            have b1 := hk.2.2.1.c1
            clear hk
            go_wp2_with fail
            refine (HCK.out _).mono ?_
            rintro ev w2 ⟨rfl, hb⟩
            have hk := HK.out.next hb
            have HK := Lib.hid hk
            clear hb c0 c1 c2 c3 e0 e1 e2 e3 e4 e5 e6 e7 b0 b1
            obtain ⟨c0, c1, c2, c3⟩ := hk.1.cells
            obtain ⟨e0, e1, e2, e3, e4, e5, e6, e7⟩ := hk.2.1.cells
            have b0 := hk.2.2.1.c0
            have b1 := hk.2.2.1.c1
            clear hk
            go_wp2_with fail
            have hs2 := slz_alloc5 w2 a0 a2 a4 a6 bb a1 a3 a5 a7 bt 38
            have hb : Below w2.heap.size w2 (w2.alloc (.cells #[.bool a0, .string a1, .bool a2, .string a3, .bool a4, .string a5, .bool a6, .string a7, .bool bb, .string bt] 38)) := (Below.refl _ _).alloc (Nat.le_refl _) _
            have HSS := Lib.hid (HSW.out _ _ hs2)
            have hkk := HK.out.next hb
            clear hs2 hb
            try go_wp2_with fail
            refine HSS.out.mono ?_
            rintro ev w3 ⟨rfl, hb⟩
            have hk := hkk.next hb
            have HK := Lib.hid hk
            clear hkk
            clear hb c0 c1 c2 c3 e0 e1 e2 e3 e4 e5 e6 e7 b0 b1
            obtain ⟨c0, c1, c2, c3⟩ := hk.1.cells
            obtain ⟨e0, e1, e2, e3, e4, e5, e6, e7⟩ := hk.2.1.cells
            have b0 := hk.2.2.1.c0
            have b1 := hk.2.2.1.c1
            clear hk
            go_wp2_with fail
            refine (HC1.out _).mono ?_
            rintro ev w4 ⟨rfl, hb⟩
            have hk := HK.out.next hb
            have HK := Lib.hid hk
            clear hb c0 c1 c2 c3 e0 e1 e2 e3 e4 e5 e6 e7 b0 b1
            obtain ⟨c0, c1, c2, c3⟩ := hk.1.cells
            obtain ⟨e0, e1, e2, e3, e4, e5, e6, e7⟩ := hk.2.1.cells
            have b0 := hk.2.2.1.c0
            have b1 := hk.2.2.1.c1
            clear hk
            go_wp2_with fail
            refine (HC2.out _).mono ?_
            rintro ev w5 ⟨rfl, hb⟩
            have hk := HK.out.next hb
            have HK := Lib.hid hk
            clear hb c0 c1 c2 c3 e0 e1 e2 e3 e4 e5 e6 e7 b0 b1
            obtain ⟨c0, c1, c2, c3⟩ := hk.1.cells
            obtain ⟨e0, e1, e2, e3, e4, e5, e6, e7⟩ := hk.2.1.cells
            have b0 := hk.2.2.1.c0
            have b1 := hk.2.2.1.c1
            clear hk
            go_wp2_with fail
            refine (HAW.out _).mono ?_
            rintro ev w6 ⟨rfl, hb⟩
            have hk := HK.out.next hb
            have HK := Lib.hid hk
            clear hb c0 c1 c2 c3 e0 e1 e2 e3 e4 e5 e6 e7 b0 b1
            obtain ⟨c0, c1, c2, c3⟩ := hk.1.cells
            obtain ⟨e0, e1, e2, e3, e4, e5, e6, e7⟩ := hk.2.1.cells
            have b0 := hk.2.2.1.c0
            have b1 := hk.2.2.1.c1
            clear hk
            go_wp2
            go_ret
            exact ⟨rfl, HK.out.2.2.2⟩
          | true =>
            obtain ⟨y2, y3⟩ := Bool.and_eq_true_iff.1 hv1
            obtain ⟨p7, p8, p9⟩ := zv_parts y2
            obtain ⟨p10, p11, p12⟩ := zv_parts y3
            have hC2 := cm_ok hc hv1
            cases hvb : zvalid bb bt with
            | false =>
              obtain ⟨cs, hcf⟩ := hC1
              obtain ⟨cs2, hcf2⟩ := hC2
              rw [hcf] at HC1
              rw [hcf2] at HC2
              rw [hvb] at HVB
              unfold kV zV oV at *
              clear h1 h2 h3 h4 hc hs l0 l1 l2 l3 l4 hv0 hv1 hvb hcf hcf2 y0 y1 y2 y3 p1 p2 p3 p4 p5 p6 p7 p8 p9 p10 p11 p12
              go_enter Try.func5, Try.ntmps5
              have hk := KU.new w M O G H a0 a1 a2 a3 a4 a5 a6 a7 bb bt
              obtain ⟨W0, hW0⟩ : ∃ W, ((w.alloc (.cells #[.string M, .string O, .string G, .string H] 26)).alloc (.cells #[.bool a0, .string a1, .bool a2, .string a3, .bool a4, .string a5, .bool a6, .string a7] 46)).alloc (.cells #[.bool bb, .string bt] 38) = W := ⟨_, rfl⟩
              rw [hW0] at hk
              have HK := Lib.hid hk
              obtain ⟨c0, c1, c2, c3⟩ := hk.1.cells
              obtain ⟨e0, e1, e2, e3, e4, e5, e6, e7⟩ := hk.2.1.cells
              have b0 := hk.2.2.1.c0
              have b1 := hk.2.2.1.c1
              clear hk
              go_wp2_with fail
              try rw [hW0]
              clear hW0
              refine (HFW.out _).mono ?_
              rintro ev w1 ⟨rfl, hb⟩
              have hk := HK.out.next hb
              have HK := Lib.hid hk
              clear hb c0 c1 c2 c3 e0 e1 e2 e3 e4 e5 e6 e7 b0 b1
              obtain ⟨c0, c1, c2, c3⟩ := hk.1.cells
              obtain ⟨e0, e1, e2, e3, e4, e5, e6, e7⟩ := hk.2.1.cells
              have b0 := hk.2.2.1.c0
              have b1 := hk.2.2.1.c1
              clear hk
              go_wp2_with fail
              refine (HCK.out _).mono ?_
              rintro ev w2 ⟨rfl, hb⟩
              have hk := HK.out.next hb
              have HK := Lib.hid hk
              clear hb c0 c1 c2 c3 e0 e1 e2 e3 e4 e5 e6 e7 b0 b1
              obtain ⟨c0, c1, c2, c3⟩ := hk.1.cells
              obtain ⟨e0, e1, e2, e3, e4, e5, e6, e7⟩ := hk.2.1.cells
              have b0 := hk.2.2.1.c0
              have b1 := hk.2.2.1.c1
              clear hk
              go_wp2_with fail
              have hs2 := slz_alloc5 w2 a0 a2 a4 a6 bb a1 a3 a5 a7 bt 38
              have hb : Below w2.heap.size w2 (w2.alloc (.cells #[.bool a0, .string a1, .bool a2, .string a3, .bool a4, .string a5, .bool a6, .string a7, .bool bb, .string bt] 38)) := (Below.refl _ _).alloc (Nat.le_refl _) _
              have HSS := Lib.hid (HSW.out _ _ hs2)
              have hkk := HK.out.next hb
              clear hs2 hb
              try go_wp2_with fail
              refine HSS.out.mono ?_
              rintro ev w3 ⟨rfl, hb⟩
              have hk := hkk.next hb
              have HK := Lib.hid hk
              clear hkk
              clear hb c0 c1 c2 c3 e0 e1 e2 e3 e4 e5 e6 e7 b0 b1
              obtain ⟨c0, c1, c2, c3⟩ := hk.1.cells
              obtain ⟨e0, e1, e2, e3, e4, e5, e6, e7⟩ := hk.2.1.cells
              have b0 := hk.2.2.1.c0
              have b1 := hk.2.2.1.c1
              clear hk
              go_wp2_with fail
              refine (HC1.out _).mono ?_
              rintro ev w4 ⟨rfl, hb⟩
              have hk := HK.out.next hb
              have HK := Lib.hid hk
              clear hb c0 c1 c2 c3 e0 e1 e2 e3 e4 e5 e6 e7 b0 b1
              obtain ⟨c0, c1, c2, c3⟩ := hk.1.cells
              obtain ⟨e0, e1, e2, e3, e4, e5, e6, e7⟩ := hk.2.1.cells
              have b0 := hk.2.2.1.c0
              have b1 := hk.2.2.1.c1
              clear hk
              go_wp2_with fail
              refine (HC2.out _).mono ?_
              rintro ev w5 ⟨rfl, hb⟩
              have hk := HK.out.next hb
              have HK := Lib.hid hk
              clear hb c0 c1 c2 c3 e0 e1 e2 e3 e4 e5 e6 e7 b0 b1
              obtain ⟨c0, c1, c2, c3⟩ := hk.1.cells
              obtain ⟨e0, e1, e2, e3, e4, e5, e6, e7⟩ := hk.2.1.cells
              have b0 := hk.2.2.1.c0
              have b1 := hk.2.2.1.c1
              clear hk
              go_wp2_with fail
              refine (HVB.out _).mono ?_
              rintro ev w6 ⟨rfl, hb⟩
              have hk := HK.out.next hb
              have HK := Lib.hid hk
              clear hb c0 c1 c2 c3 e0 e1 e2 e3 e4 e5 e6 e7 b0 b1
              obtain ⟨c0, c1, c2, c3⟩ := hk.1.cells
              obtain ⟨e0, e1, e2, e3, e4, e5, e6, e7⟩ := hk.2.1.cells
              have b0 := hk.2.2.1.c0
              have b1 := hk.2.2.1.c1
              clear hk
              go_wp2_with fail
              refine (HAW.out _).mono ?_
              rintro ev w7 ⟨rfl, hb⟩
              have hk := HK.out.next hb
              have HK := Lib.hid hk
              clear hb c0 c1 c2 c3 e0 e1 e2 e3 e4 e5 e6 e7 b0 b1
              obtain ⟨c0, c1, c2, c3⟩ := hk.1.cells
              obtain ⟨e0, e1, e2, e3, e4, e5, e6, e7⟩ := hk.2.1.cells
              have b0 := hk.2.2.1.c0
              have b1 := hk.2.2.1.c1
              clear hk
              go_wp2_with fail
              refine (HVB.out _).mono ?_
              rintro ev w8 ⟨rfl, hb⟩
              have hk := HK.out.next hb
              have HK := Lib.hid hk
              clear hb c0 c1 c2 c3 e0 e1 e2 e3 e4 e5 e6 e7 b0 b1
              obtain ⟨c0, c1, c2, c3⟩ := hk.1.cells
              obtain ⟨e0, e1, e2, e3, e4, e5, e6, e7⟩ := hk.2.1.cells
              have b0 := hk.2.2.1.c0
              have b1 := hk.2.2.1.c1
              clear hk
              go_wp2
              go_ret
              exact ⟨rfl, HK.out.2.2.2⟩
            | true =>
              obtain ⟨p13, p14, p15⟩ := zv_parts hvb
              rw [hvb] at HVB
              have hbound : ∀ (b : Bool) (s : ByteArray), s.size ≤ 16 → (sg b (num s)).natAbs < 256 ^ 16 := fun b s h => by
                rw [sg_natAbs]
                exact Nat.lt_of_lt_of_le (num_lt_size s) (Nat.pow_le_pow_right (by decide) h)
              have m0 := hbound a0 a1 l0
              have m1 := hbound a2 a3 l1
              have m2 := hbound a4 a5 l2
              have m3 := hbound a6 a7 l3
              have m4 := hbound bb bt l4
              have hO2 := nS_num (kF_parts2 (pkC_kF hc)).2.1
              have ho8 : num O < 18446744073709551616 := nS_size_le.1 (by rw [← hO2]; exact h2)
              have hk := keyF_of hc
              have ho128 : num O < 256 ^ 128 := lt128_of_lt8 ho8
              generalize sg a0 (num a1) = v0 at *
              generalize sg a2 (num a3) = r0 at *
              generalize sg a4 (num a5) = v1 at *
              generalize sg a6 (num a7) = r1 at *
              generalize sg bb (num bt) = b at *
              have fA := has_cm hk v0 r0
              have fB := has_cm hk v1 r1
              have hcO : pkC M (nS (num O)) G H = 0 := by rw [← hO2]; exact hc
              have HAD := Lib.hid (pk_Add M O G H (nS (cmN (num M) (num G) (num H) v0 r0)) (nS (cmN (num M) (num G) (num H) v1 r1)) h1 h2 (by omega) (by omega) (sz1000 hc (has_lt fA)) (sz1000 hc (has_lt fB)))
              rw [ad_int hc fA fB, cm_add hk] at HAD
              have HSC := Lib.hid (pk_Scale M O G H (nS (cmN (num M) (num G) (num H) v0 r0)) bb bt h1 h2 (by omega) (by omega) (sz1000 hc (has_lt fA)) (by omega))
              have HSH := Lib.hid (pk_Shift M O G H (nS (cmN (num M) (num G) (num H) v0 r0)) bb bt h1 h2 (by omega) (by omega) (sz1000 hc (has_lt fA)) (by omega))
              rw [p13, p14, sc_int hc fA p15, cm_scale hk] at HSC
              rw [p13, p14, sf_int hc fA p15, cm_shift hk] at HSH
              have HSU := Lib.hid (pk_Sum_core M G H (num O) v0 r0 v1 r1 _ _ h1 ho8 (by omega) (by omega) p3 p6 p9 p12 hcO (fun w => int_AddA v0 v1 p3 p9 w) (fun w => int_AddA r0 r1 p6 p12 w))
              have HTI := Lib.hid (pk_Times_core M G H (num O) v0 r0 b _ _ h1 ho8 (by omega) (by omega) p3 p6 p15 hcO (fun w => int_MulA v0 b p3 p15 w) (fun w => int_MulA r0 b p6 p15 w))
              have HS2 := Lib.hid (pk_Sum_core M G H (num O) v0 r0 b 0 _ _ h1 ho8 (by omega) (by omega) p3 p6 p15 (Nat.pow_pos (by decide)) hcO (fun w => int_AddA v0 b p3 p15 w) (fun w => int_AddA r0 0 p6 (Nat.pow_pos (by decide)) w))
              have z1 := add16 m0 m2
              have z2 := add16 m1 m3
              have z3 := mul16 m0 m4
              have z4 := mul16 m1 m4
              have z5 := add16 m0 m4
              have z6 : (r0 + 0).natAbs < 256 ^ 128 := by rw [Int.add_zero]; exact p6
              rw [smZ_in z1 z2] at HSU
              rw [smZ_in z3 z4] at HTI
              rw [smZ_in z5 z6] at HS2
              have HO1 := Lib.hid (pk_Opens M O G H (nS (cmN (num M) (num G) (num H) v0 r0)) a0 a1 a2 a3 h1 h2 (by omega) (by omega) (by omega) (by omega))
              rw [p1, p2, p4, p5, op_int hc p3 p6, decide_eq_true rfl] at HO1
              have hOp := fun (X : Nat) (x y : Int) (hx : x.natAbs < 256 ^ 128) (hy : y.natAbs < 256 ^ 128) (he : cmN (num M) (num G) (num H) x y = X) (w : World) => show Calls Try.prog 13 #[kV M O G H, .string (nS X), oV (decide (redZ (num O) x < 0)) (nS (redZ (num O) x).natAbs) (decide (redZ (num O) y < 0)) (nS (redZ (num O) y).natAbs)] w (Ret (.bool true) w) from by
                have q1 := redZ_small ho128 hx
                have q2 := redZ_small ho128 hy
                have h := pk_Opens M O G H (nS X) (decide (redZ (num O) x < 0)) (nS (redZ (num O) x).natAbs) (decide (redZ (num O) y < 0)) (nS (redZ (num O) y).natAbs) h1 h2 (by omega) (by omega) (by have := nS_size_le.2 q1; omega) (by have := nS_size_le.2 q2; omega) w
                rw [op_int hc q1 q2, cm_red hk, he, decide_eq_true rfl] at h
                exact h
              have HO2 := Lib.hid (hOp _ _ _ z1 z2 rfl)
              have HO3 := Lib.hid (hOp _ _ _ z3 z4 rfl)
              have HO4 := Lib.hid (hOp _ _ _ z5 z6 (by rw [Int.add_zero]))
              clear hOp
              rw [p1, p2, p4, p5, cm_int hc p3 p6] at HC1
              rw [p7, p8, p10, p11, cm_int hc p9 p12] at HC2
              rw [← hO2] at HSU HTI HS2
              unfold kV oV arV at *
              unfold intV zV at *
              rw [← p1, ← p2, ← p4, ← p5] at HC1 HO1 HSU HTI HS2
              rw [← p7, ← p8, ← p10, ← p11] at HC2 HSU
              rw [← p13, ← p14] at HSC HSH HTI HS2
              rw [show decide ((0 : Int) < 0) = false from rfl, show nS (0 : Int).natAbs = ⟨#[]⟩ from rfl] at HS2
              obtain ⟨sA, gsA⟩ : ∃ t, nS (cmN (num M) (num G) (num H) v0 r0) = t := ⟨_, rfl⟩
              rw [gsA] at HC1 HAD HSC HSH HO1
              obtain ⟨sB, gsB⟩ : ∃ t, nS (cmN (num M) (num G) (num H) v1 r1) = t := ⟨_, rfl⟩
              rw [gsB] at HC2 HAD
              obtain ⟨sC, gsC⟩ : ∃ t, nS (cmN (num M) (num G) (num H) (v0 + v1) (r0 + r1)) = t := ⟨_, rfl⟩
              rw [gsC] at HAD HO2
              obtain ⟨sD, gsD⟩ : ∃ t, nS (cmN (num M) (num G) (num H) (v0 * b) (r0 * b)) = t := ⟨_, rfl⟩
              rw [gsD] at HSC HO3
              obtain ⟨sW, gsW⟩ : ∃ t, nS (cmN (num M) (num G) (num H) (v0 + b) r0) = t := ⟨_, rfl⟩
              rw [gsW] at HSH HO4
              obtain ⟨s1, gs1⟩ : ∃ t, decide (redZ (num O) (v0 + v1) < 0) = t := ⟨_, rfl⟩
              rw [gs1] at HSU HO2
              obtain ⟨s2, gs2⟩ : ∃ t, nS (redZ (num O) (v0 + v1)).natAbs = t := ⟨_, rfl⟩
              rw [gs2] at HSU HO2
              obtain ⟨s3, gs3⟩ : ∃ t, decide (redZ (num O) (r0 + r1) < 0) = t := ⟨_, rfl⟩
              rw [gs3] at HSU HO2
              obtain ⟨s4, gs4⟩ : ∃ t, nS (redZ (num O) (r0 + r1)).natAbs = t := ⟨_, rfl⟩
              rw [gs4] at HSU HO2
              obtain ⟨t1, gt1⟩ : ∃ t, decide (redZ (num O) (v0 * b) < 0) = t := ⟨_, rfl⟩
              rw [gt1] at HTI HO3
              obtain ⟨t2, gt2⟩ : ∃ t, nS (redZ (num O) (v0 * b)).natAbs = t := ⟨_, rfl⟩
              rw [gt2] at HTI HO3
              obtain ⟨t3, gt3⟩ : ∃ t, decide (redZ (num O) (r0 * b) < 0) = t := ⟨_, rfl⟩
              rw [gt3] at HTI HO3
              obtain ⟨t4, gt4⟩ : ∃ t, nS (redZ (num O) (r0 * b)).natAbs = t := ⟨_, rfl⟩
              rw [gt4] at HTI HO3
              obtain ⟨u1, gu1⟩ : ∃ t, decide (redZ (num O) (v0 + b) < 0) = t := ⟨_, rfl⟩
              rw [gu1] at HS2 HO4
              obtain ⟨u2, gu2⟩ : ∃ t, nS (redZ (num O) (v0 + b)).natAbs = t := ⟨_, rfl⟩
              rw [gu2] at HS2 HO4
              obtain ⟨u3, gu3⟩ : ∃ t, decide (redZ (num O) (r0 + 0) < 0) = t := ⟨_, rfl⟩
              rw [gu3] at HS2 HO4
              obtain ⟨u4, gu4⟩ : ∃ t, nS (redZ (num O) (r0 + 0)).natAbs = t := ⟨_, rfl⟩
              rw [gu4] at HS2 HO4
              clear gsA gsB gsC gsD gsW gs1 gs2 gs3 gs4 gt1 gt2 gt3 gt4 gu1 gu2 gu3 gu4 hC1 hC2 h1 h2 h3 h4 hc hs l0 l1 l2 l3 l4 hv0 hv1 hvb y0 y1 y2 y3 p1 p2 p3 p4 p5 p6 p7 p8 p9 p10 p11 p12 p13 p14 p15 hbound m0 m1 m2 m3 m4 hO2 ho8 hk ho128 fA fB hcO z1 z2 z3 z4 z5 z6
              go_enter Try.func5, Try.ntmps5
              have hk := KU.new w M O G H a0 a1 a2 a3 a4 a5 a6 a7 bb bt
              obtain ⟨W0, hW0⟩ : ∃ W, ((w.alloc (.cells #[.string M, .string O, .string G, .string H] 26)).alloc (.cells #[.bool a0, .string a1, .bool a2, .string a3, .bool a4, .string a5, .bool a6, .string a7] 46)).alloc (.cells #[.bool bb, .string bt] 38) = W := ⟨_, rfl⟩
              rw [hW0] at hk
              have HK := Lib.hid hk
              obtain ⟨c0, c1, c2, c3⟩ := hk.1.cells
              obtain ⟨e0, e1, e2, e3, e4, e5, e6, e7⟩ := hk.2.1.cells
              have b0 := hk.2.2.1.c0
              have b1 := hk.2.2.1.c1
              clear hk
              go_wp2_with fail
              try rw [hW0]
              clear hW0
              refine (HFW.out _).mono ?_
              rintro ev w1 ⟨rfl, hb⟩
              have hk := HK.out.next hb
              have HK := Lib.hid hk
              clear hb c0 c1 c2 c3 e0 e1 e2 e3 e4 e5 e6 e7 b0 b1
              obtain ⟨c0, c1, c2, c3⟩ := hk.1.cells
              obtain ⟨e0, e1, e2, e3, e4, e5, e6, e7⟩ := hk.2.1.cells
              have b0 := hk.2.2.1.c0
              have b1 := hk.2.2.1.c1
              clear hk
              go_wp2_with fail
              refine (HCK.out _).mono ?_
              rintro ev w2 ⟨rfl, hb⟩
              have hk := HK.out.next hb
              have HK := Lib.hid hk
              clear hb c0 c1 c2 c3 e0 e1 e2 e3 e4 e5 e6 e7 b0 b1
              obtain ⟨c0, c1, c2, c3⟩ := hk.1.cells
              obtain ⟨e0, e1, e2, e3, e4, e5, e6, e7⟩ := hk.2.1.cells
              have b0 := hk.2.2.1.c0
              have b1 := hk.2.2.1.c1
              clear hk
              go_wp2_with fail
              have hs2 := slz_alloc5 w2 a0 a2 a4 a6 bb a1 a3 a5 a7 bt 38
              have hb : Below w2.heap.size w2 (w2.alloc (.cells #[.bool a0, .string a1, .bool a2, .string a3, .bool a4, .string a5, .bool a6, .string a7, .bool bb, .string bt] 38)) := (Below.refl _ _).alloc (Nat.le_refl _) _
              have HSS := Lib.hid (HSW.out _ _ hs2)
              have hkk := HK.out.next hb
              clear hs2 hb
              try go_wp2_with fail
              refine HSS.out.mono ?_
              rintro ev w3 ⟨rfl, hb⟩
              have hk := hkk.next hb
              have HK := Lib.hid hk
              clear hkk
              clear hb c0 c1 c2 c3 e0 e1 e2 e3 e4 e5 e6 e7 b0 b1
              obtain ⟨c0, c1, c2, c3⟩ := hk.1.cells
              obtain ⟨e0, e1, e2, e3, e4, e5, e6, e7⟩ := hk.2.1.cells
              have b0 := hk.2.2.1.c0
              have b1 := hk.2.2.1.c1
              clear hk
              go_wp2_with fail
              refine (HC1.out _).mono ?_
              rintro ev w4 ⟨rfl, hb⟩
              have hk := HK.out.next hb
              have HK := Lib.hid hk
              clear hb c0 c1 c2 c3 e0 e1 e2 e3 e4 e5 e6 e7 b0 b1
              obtain ⟨c0, c1, c2, c3⟩ := hk.1.cells
              obtain ⟨e0, e1, e2, e3, e4, e5, e6, e7⟩ := hk.2.1.cells
              have b0 := hk.2.2.1.c0
              have b1 := hk.2.2.1.c1
              clear hk
              go_wp2_with fail
              refine (HC2.out _).mono ?_
              rintro ev w5 ⟨rfl, hb⟩
              have hk := HK.out.next hb
              have HK := Lib.hid hk
              clear hb c0 c1 c2 c3 e0 e1 e2 e3 e4 e5 e6 e7 b0 b1
              obtain ⟨c0, c1, c2, c3⟩ := hk.1.cells
              obtain ⟨e0, e1, e2, e3, e4, e5, e6, e7⟩ := hk.2.1.cells
              have b0 := hk.2.2.1.c0
              have b1 := hk.2.2.1.c1
              clear hk
              go_wp2_with fail
              refine (HVB.out _).mono ?_
              rintro ev w6 ⟨rfl, hb⟩
              have hk := HK.out.next hb
              have HK := Lib.hid hk
              clear hb c0 c1 c2 c3 e0 e1 e2 e3 e4 e5 e6 e7 b0 b1
              obtain ⟨c0, c1, c2, c3⟩ := hk.1.cells
              obtain ⟨e0, e1, e2, e3, e4, e5, e6, e7⟩ := hk.2.1.cells
              have b0 := hk.2.2.1.c0
              have b1 := hk.2.2.1.c1
              clear hk
              go_wp2_with fail
              refine (HAD.out _).mono ?_
              rintro ev w7 ⟨rfl, hb⟩
              have hk := HK.out.next hb
              have HK := Lib.hid hk
              clear hb c0 c1 c2 c3 e0 e1 e2 e3 e4 e5 e6 e7 b0 b1
              obtain ⟨c0, c1, c2, c3⟩ := hk.1.cells
              obtain ⟨e0, e1, e2, e3, e4, e5, e6, e7⟩ := hk.2.1.cells
              have b0 := hk.2.2.1.c0
              have b1 := hk.2.2.1.c1
              clear hk
              go_wp2_with fail
              refine (HSU.out _).mono ?_
              rintro ev w8 ⟨rfl, hb⟩
              have HBL := Lib.hid hb
              have hk := HK.out.next hb
              have HK := Lib.hid hk
              clear hb c0 c1 c2 c3 e0 e1 e2 e3 e4 e5 e6 e7 b0 b1
              obtain ⟨c0, c1, c2, c3⟩ := hk.1.cells
              obtain ⟨e0, e1, e2, e3, e4, e5, e6, e7⟩ := hk.2.1.cells
              have b0 := hk.2.2.1.c0
              have b1 := hk.2.2.1.c1
              clear hk
              have hb : Below w8.heap.size w8 (w8.alloc (.cells #[.bool s1, .string s2, .bool s3, .string s4] 43)) := (Below.refl _ _).alloc (Nat.le_refl _) _
              have hn := Bx4.new w8 (.bool s1) (.string s2) (.bool s3) (.string s4) 43
              obtain ⟨W8, hW8⟩ : ∃ W, w8.alloc (.cells #[.bool s1, .string s2, .bool s3, .string s4] 43) = W := ⟨_, rfl⟩
              obtain ⟨B8, hB8⟩ : ∃ B, w8.heap.size = B := ⟨_, rfl⟩
              rw [hW8] at hb hn
              rw [hB8] at hn
              have HN8 := Lib.hid hn
              clear hn
              have hk := HK.out.next hb
              have HK := Lib.hid hk
              clear hb c0 c1 c2 c3 e0 e1 e2 e3 e4 e5 e6 e7 b0 b1
              obtain ⟨c0, c1, c2, c3⟩ := hk.1.cells
              obtain ⟨e0, e1, e2, e3, e4, e5, e6, e7⟩ := hk.2.1.cells
              have b0 := hk.2.2.1.c0
              have b1 := hk.2.2.1.c1
              clear hk
              go_wp2_with fail
              try rw [hW8]
              try rw [hB8]
              clear hW8 hB8
              refine (HSC.out _).mono ?_
              rintro ev w9 ⟨rfl, hb⟩
              have HBL := Lib.hid hb
              have hk := HK.out.next hb
              have HK := Lib.hid hk
              clear hb c0 c1 c2 c3 e0 e1 e2 e3 e4 e5 e6 e7 b0 b1
              obtain ⟨c0, c1, c2, c3⟩ := hk.1.cells
              obtain ⟨e0, e1, e2, e3, e4, e5, e6, e7⟩ := hk.2.1.cells
              have b0 := hk.2.2.1.c0
              have b1 := hk.2.2.1.c1
              clear hk
              have HN8 := Lib.hid (HN8.out.next HBL.out)
              go_wp2_with fail
              refine (HTI.out _).mono ?_
              rintro ev w10 ⟨rfl, hb⟩
              have HBL := Lib.hid hb
              have hk := HK.out.next hb
              have HK := Lib.hid hk
              clear hb c0 c1 c2 c3 e0 e1 e2 e3 e4 e5 e6 e7 b0 b1
              obtain ⟨c0, c1, c2, c3⟩ := hk.1.cells
              obtain ⟨e0, e1, e2, e3, e4, e5, e6, e7⟩ := hk.2.1.cells
              have b0 := hk.2.2.1.c0
              have b1 := hk.2.2.1.c1
              clear hk
              have HN8 := Lib.hid (HN8.out.next HBL.out)
              have hb : Below w10.heap.size w10 (w10.alloc (.cells #[.bool t1, .string t2, .bool t3, .string t4] 43)) := (Below.refl _ _).alloc (Nat.le_refl _) _
              have hn := Bx4.new w10 (.bool t1) (.string t2) (.bool t3) (.string t4) 43
              obtain ⟨W10, hW10⟩ : ∃ W, w10.alloc (.cells #[.bool t1, .string t2, .bool t3, .string t4] 43) = W := ⟨_, rfl⟩
              obtain ⟨B10, hB10⟩ : ∃ B, w10.heap.size = B := ⟨_, rfl⟩
              rw [hW10] at hb hn
              rw [hB10] at hn
              have HN8 := Lib.hid (HN8.out.next hb)
              have HN10 := Lib.hid hn
              clear hn
              have hk := HK.out.next hb
              have HK := Lib.hid hk
              clear hb c0 c1 c2 c3 e0 e1 e2 e3 e4 e5 e6 e7 b0 b1
              obtain ⟨c0, c1, c2, c3⟩ := hk.1.cells
              obtain ⟨e0, e1, e2, e3, e4, e5, e6, e7⟩ := hk.2.1.cells
              have b0 := hk.2.2.1.c0
              have b1 := hk.2.2.1.c1
              clear hk
              go_wp2_with fail
              try rw [hW10]
              try rw [hB10]
              clear hW10 hB10
              refine (HSH.out _).mono ?_
              rintro ev w11 ⟨rfl, hb⟩
              have HBL := Lib.hid hb
              have hk := HK.out.next hb
              have HK := Lib.hid hk
              clear hb c0 c1 c2 c3 e0 e1 e2 e3 e4 e5 e6 e7 b0 b1
              obtain ⟨c0, c1, c2, c3⟩ := hk.1.cells
              obtain ⟨e0, e1, e2, e3, e4, e5, e6, e7⟩ := hk.2.1.cells
              have b0 := hk.2.2.1.c0
              have b1 := hk.2.2.1.c1
              clear hk
              have HN8 := Lib.hid (HN8.out.next HBL.out)
              have HN10 := Lib.hid (HN10.out.next HBL.out)
              go_wp2_with fail
              refine (HS2.out _).mono ?_
              rintro ev w12 ⟨rfl, hb⟩
              have HBL := Lib.hid hb
              have hk := HK.out.next hb
              have HK := Lib.hid hk
              clear hb c0 c1 c2 c3 e0 e1 e2 e3 e4 e5 e6 e7 b0 b1
              obtain ⟨c0, c1, c2, c3⟩ := hk.1.cells
              obtain ⟨e0, e1, e2, e3, e4, e5, e6, e7⟩ := hk.2.1.cells
              have b0 := hk.2.2.1.c0
              have b1 := hk.2.2.1.c1
              clear hk
              have HN8 := Lib.hid (HN8.out.next HBL.out)
              have HN10 := Lib.hid (HN10.out.next HBL.out)
              have hb : Below w12.heap.size w12 (w12.alloc (.cells #[.bool u1, .string u2, .bool u3, .string u4] 43)) := (Below.refl _ _).alloc (Nat.le_refl _) _
              have hn := Bx4.new w12 (.bool u1) (.string u2) (.bool u3) (.string u4) 43
              obtain ⟨W12, hW12⟩ : ∃ W, w12.alloc (.cells #[.bool u1, .string u2, .bool u3, .string u4] 43) = W := ⟨_, rfl⟩
              obtain ⟨B12, hB12⟩ : ∃ B, w12.heap.size = B := ⟨_, rfl⟩
              rw [hW12] at hb hn
              rw [hB12] at hn
              have HN8 := Lib.hid (HN8.out.next hb)
              have HN10 := Lib.hid (HN10.out.next hb)
              have HN12 := Lib.hid hn
              clear hn
              have hk := HK.out.next hb
              have HK := Lib.hid hk
              clear hb c0 c1 c2 c3 e0 e1 e2 e3 e4 e5 e6 e7 b0 b1
              obtain ⟨c0, c1, c2, c3⟩ := hk.1.cells
              obtain ⟨e0, e1, e2, e3, e4, e5, e6, e7⟩ := hk.2.1.cells
              have b0 := hk.2.2.1.c0
              have b1 := hk.2.2.1.c1
              clear hk
              go_wp2_with fail
              try rw [hW12]
              try rw [hB12]
              clear hW12 hB12
              refine (HAW.out _).mono ?_
              rintro ev w13 ⟨rfl, hb⟩
              have HBL := Lib.hid hb
              have hk := HK.out.next hb
              have HK := Lib.hid hk
              clear hb c0 c1 c2 c3 e0 e1 e2 e3 e4 e5 e6 e7 b0 b1
              obtain ⟨c0, c1, c2, c3⟩ := hk.1.cells
              obtain ⟨e0, e1, e2, e3, e4, e5, e6, e7⟩ := hk.2.1.cells
              have b0 := hk.2.2.1.c0
              have b1 := hk.2.2.1.c1
              clear hk
              have HN8 := Lib.hid (HN8.out.next HBL.out)
              have HN10 := Lib.hid (HN10.out.next HBL.out)
              have HN12 := Lib.hid (HN12.out.next HBL.out)
              go_wp2_with fail
              refine (HO1.out _).mono ?_
              rintro ev w14 ⟨rfl, hb⟩
              have HBL := Lib.hid hb
              have hk := HK.out.next hb
              have HK := Lib.hid hk
              clear hb c0 c1 c2 c3 e0 e1 e2 e3 e4 e5 e6 e7 b0 b1
              obtain ⟨c0, c1, c2, c3⟩ := hk.1.cells
              obtain ⟨e0, e1, e2, e3, e4, e5, e6, e7⟩ := hk.2.1.cells
              have b0 := hk.2.2.1.c0
              have b1 := hk.2.2.1.c1
              clear hk
              have HN8 := Lib.hid (HN8.out.next HBL.out)
              have HN10 := Lib.hid (HN10.out.next HBL.out)
              have HN12 := Lib.hid (HN12.out.next HBL.out)
              obtain ⟨m8a, m8b, m8c, m8d⟩ := HN8.out.cells
              go_wp2_with fail
              clear m8a m8b m8c m8d
              refine (HO2.out _).mono ?_
              rintro ev w15 ⟨rfl, hb⟩
              have HBL := Lib.hid hb
              have hk := HK.out.next hb
              have HK := Lib.hid hk
              clear hb c0 c1 c2 c3 e0 e1 e2 e3 e4 e5 e6 e7 b0 b1
              obtain ⟨c0, c1, c2, c3⟩ := hk.1.cells
              obtain ⟨e0, e1, e2, e3, e4, e5, e6, e7⟩ := hk.2.1.cells
              have b0 := hk.2.2.1.c0
              have b1 := hk.2.2.1.c1
              clear hk
              have HN8 := Lib.hid (HN8.out.next HBL.out)
              have HN10 := Lib.hid (HN10.out.next HBL.out)
              have HN12 := Lib.hid (HN12.out.next HBL.out)
              obtain ⟨m10a, m10b, m10c, m10d⟩ := HN10.out.cells
              go_wp2_with fail
              clear m10a m10b m10c m10d
              refine (HO3.out _).mono ?_
              rintro ev w16 ⟨rfl, hb⟩
              have HBL := Lib.hid hb
              have hk := HK.out.next hb
              have HK := Lib.hid hk
              clear hb c0 c1 c2 c3 e0 e1 e2 e3 e4 e5 e6 e7 b0 b1
              obtain ⟨c0, c1, c2, c3⟩ := hk.1.cells
              obtain ⟨e0, e1, e2, e3, e4, e5, e6, e7⟩ := hk.2.1.cells
              have b0 := hk.2.2.1.c0
              have b1 := hk.2.2.1.c1
              clear hk
              have HN8 := Lib.hid (HN8.out.next HBL.out)
              have HN10 := Lib.hid (HN10.out.next HBL.out)
              have HN12 := Lib.hid (HN12.out.next HBL.out)
              obtain ⟨m12a, m12b, m12c, m12d⟩ := HN12.out.cells
              go_wp2_with fail
              clear m12a m12b m12c m12d
              refine (HO4.out _).mono ?_
              rintro ev w17 ⟨rfl, hb⟩
              have hk := HK.out.next hb
              have HK := Lib.hid hk
              clear hb c0 c1 c2 c3 e0 e1 e2 e3 e4 e5 e6 e7 b0 b1
              obtain ⟨c0, c1, c2, c3⟩ := hk.1.cells
              obtain ⟨e0, e1, e2, e3, e4, e5, e6, e7⟩ := hk.2.1.cells
              have b0 := hk.2.2.1.c0
              have b1 := hk.2.2.1.c1
              clear hk
              go_wp2
              go_ret
              exact ⟨rfl, HK.out.2.2.2⟩
    · obtain ⟨k, hk⟩ : ∃ k, pkC M O G H = k := ⟨_, rfl⟩
      rw [hk] at HCK hc
      have i3 : (k == 0) = false := beq_eq_false_iff_ne.2 hc
      unfold kV zV at *
      clear h1 h2 h3 h4 hk
      go_enter Try.func5, Try.ntmps5
      have hk := KU.new w M O G H a0 a1 a2 a3 a4 a5 a6 a7 bb bt
      obtain ⟨W0, hW0⟩ : ∃ W, ((w.alloc (.cells #[.string M, .string O, .string G, .string H] 26)).alloc (.cells #[.bool a0, .string a1, .bool a2, .string a3, .bool a4, .string a5, .bool a6, .string a7] 46)).alloc (.cells #[.bool bb, .string bt] 38) = W := ⟨_, rfl⟩
      rw [hW0] at hk
      have HK := Lib.hid hk
      obtain ⟨c0, c1, c2, c3⟩ := hk.1.cells
      obtain ⟨e0, e1, e2, e3, e4, e5, e6, e7⟩ := hk.2.1.cells
      have b0 := hk.2.2.1.c0
      have b1 := hk.2.2.1.c1
      clear hk
      go_wp2_with fail
      try rw [hW0]
      clear hW0
      refine (HFW.out _).mono ?_
      rintro ev w1 ⟨rfl, hb⟩
      have hk := HK.out.next hb
      have HK := Lib.hid hk
      clear hb c0 c1 c2 c3 e0 e1 e2 e3 e4 e5 e6 e7 b0 b1
      obtain ⟨c0, c1, c2, c3⟩ := hk.1.cells
      obtain ⟨e0, e1, e2, e3, e4, e5, e6, e7⟩ := hk.2.1.cells
      have b0 := hk.2.2.1.c0
      have b1 := hk.2.2.1.c1
      clear hk
      go_wp2_with fail
      refine (HCK.out _).mono ?_
      rintro ev w2 ⟨rfl, hb⟩
      have hk := HK.out.next hb
      have HK := Lib.hid hk
      clear hb c0 c1 c2 c3 e0 e1 e2 e3 e4 e5 e6 e7 b0 b1
      obtain ⟨c0, c1, c2, c3⟩ := hk.1.cells
      obtain ⟨e0, e1, e2, e3, e4, e5, e6, e7⟩ := hk.2.1.cells
      have b0 := hk.2.2.1.c0
      have b1 := hk.2.2.1.c1
      clear hk
      go_wp2_with fail
      refine (HAW.out _).mono ?_
      rintro ev w3 ⟨rfl, hb⟩
      have hk := HK.out.next hb
      have HK := Lib.hid hk
      clear hb c0 c1 c2 c3 e0 e1 e2 e3 e4 e5 e6 e7 b0 b1
      obtain ⟨c0, c1, c2, c3⟩ := hk.1.cells
      obtain ⟨e0, e1, e2, e3, e4, e5, e6, e7⟩ := hk.2.1.cells
      have b0 := hk.2.2.1.c0
      have b1 := hk.2.2.1.c1
      clear hk
      go_wp2
      go_ret
      exact ⟨rfl, HK.out.2.2.2⟩
end Go.Proofs.Ytnnfgphioapmnaa
/- The law PedersenBinds. -/
set_option linter.unusedVariables false
set_option linter.unusedSimpArgs false
namespace Go.Proofs.Ytnnfgphioapmnaa
open Go.RowKit

theorem cm_left {m g h : Nat} (hm : 1 < m) (v : Int) : cmN m g h v 0 = pz m g v := by
  unfold cmN
  rw [pz_zero hm, Nat.mul_one, Nat.mod_eq_of_lt (pz_lt v hm)]
theorem cm_right {m g h : Nat} (hm : 1 < m) (r : Int) : cmN m g h 0 r = pz m h r := by
  unfold cmN
  rw [pz_zero hm, Nat.one_mul, Nat.mod_eq_of_lt (pz_lt r hm)]
theorem binds_law {m o g h : Nat} (hk : KeyF m o g h) (ho : 0 < o) {v0 r0 v1 r1 : Int} (he : cmN m g h v1 r1 = cmN m g h v0 r0) {i : Nat} (hi : ((v0 - v1) % (o : Int)).toNat * i % o = 1) : pz m h ((((r1 - r0) % (o : Int)).toNat * i % o : Nat) : Int) = g := by
  obtain ⟨gi, hgi⟩ := has_un hk.hc hk.hg
  obtain ⟨hi2, hhi⟩ := has_un hk.hc hk.hh
  have e1 : pz m g (v0 - v1) = pz m h (r1 - r0) := by
    have h1 := cm_add hk v0 r0 (-v1) (-r0)
    have h2 := cm_add hk v1 r1 (-v1) (-r0)
    rw [he, h1] at h2
    rw [show v0 + -v1 = v0 - v1 from by omega, show r0 + -r0 = 0 from by omega, show v1 + -v1 = 0 from by omega, show r1 + -r0 = r1 - r0 from by omega, cm_left hk.hm, cm_right hk.hm] at h2
    exact h2
  have go := has_ord ho hk.hg
  have ho2 := has_ord ho hk.hh
  have c1 : ((((r1 - r0) % (o : Int)).toNat * i % o : Nat) : Int) = ((r1 - r0) % (o : Int) * (i : Int)) % (o : Int) := by
    rw [Int.natCast_emod, Int.natCast_mul, Int.toNat_of_nonneg (Int.emod_nonneg _ (by omega))]
  have c2 : (((v0 - v1) % (o : Int) * (i : Int)) % (o : Int)) = 1 := by
    have : ((((v0 - v1) % (o : Int)).toNat * i % o : Nat) : Int) = 1 := by rw [hi]; rfl
    rw [Int.natCast_emod, Int.natCast_mul, Int.toNat_of_nonneg (Int.emod_nonneg _ (by omega))] at this
    exact this
  rw [c1, pz_red hhi ho2, ← pz_pow hhi, pz_red hhi ho2, ← e1, ← pz_red hgi go (v0 - v1), pz_pow hgi, ← pz_red hgi go, c2]
  exact pz_one hgi.hx
theorem slz_alloc4 (w : World) (b1 b2 b3 b4 : Bool) (s1 s2 s3 s4 : ByteArray) (T : TypeId) : SlZ (w.alloc (.cells #[.bool b1, .string s1, .bool b2, .string s2, .bool b3, .string s3, .bool b4, .string s4] T)) (some ⟨w.heap.size, 0, none⟩) 4 4 [(b1, s1), (b2, s2), (b3, s3), (b4, s4)] := by
  have h := heap_alloc_new w (.cells #[.bool b1, .string s1, .bool b2, .string s2, .bool b3, .string s3, .bool b4, .string s4] T)
  refine ⟨rfl, Nat.le_refl _, by omega, w.heap.size, 0, fun _ => rfl, fun k z hk => ?_⟩
  match k, hk with
  | 0, hk => cases hk; exact ⟨by rw [Lib.cell_of_heap h]; rfl, by rw [Lib.cell_of_heap h]; rfl⟩
  | 1, hk => cases hk; exact ⟨by rw [Lib.cell_of_heap h]; rfl, by rw [Lib.cell_of_heap h]; rfl⟩
  | 2, hk => cases hk; exact ⟨by rw [Lib.cell_of_heap h]; rfl, by rw [Lib.cell_of_heap h]; rfl⟩
  | 3, hk => cases hk; exact ⟨by rw [Lib.cell_of_heap h]; rfl, by rw [Lib.cell_of_heap h]; rfl⟩
theorem shortZ_four {b1 b2 b3 b4 : Bool} {s1 s2 s3 s4 : ByteArray} (h : shortZ [(b1, s1), (b2, s2), (b3, s3), (b4, s4)] = true) : s1.size ≤ 16 ∧ s2.size ≤ 16 ∧ s3.size ≤ 16 ∧ s4.size ≤ 16 := by
  unfold shortZ at h
  simp only [List.all_cons, List.all_nil, Bool.and_true, Bool.and_eq_true, decide_eq_true_eq] at h
  exact h
theorem lt16_100 {z : Int} (h : z.natAbs < 256 ^ 16) : z.natAbs < 256 ^ 100 := Nat.lt_of_lt_of_le h (Nat.pow_le_pow_right (by decide) (by decide))
theorem sub16 {x y : Int} (hx : x.natAbs < 256 ^ 16) (hy : y.natAbs < 256 ^ 16) : (x - y).natAbs < 256 ^ 128 := by
  have h1 : (256 : Nat) ^ 16 * 2 ≤ 256 ^ 128 := by decide +kernel
  omega
theorem emod_lt_nat {o : Nat} (z : Int) (ho : 0 < o) : (z % (o : Int)).toNat < o := by
  have h1 := Int.emod_nonneg z (show (o : Int) ≠ 0 by omega)
  have h2 := Int.emod_lt_of_pos z (show (0 : Int) < (o : Int) by omega)
  omega
/-- A key and two openings. -/
def KB (w W : World) (M O G H : ByteArray) (a0 : Bool) (a1 : ByteArray) (a2 : Bool) (a3 : ByteArray) (a4 : Bool) (a5 : ByteArray) (a6 : Bool) (a7 : ByteArray) : Prop :=
  Bx4 W w.heap.size (.string M) (.string O) (.string G) (.string H) 26 ∧ Bx8 W (w.heap.size + 1) (.bool a0) (.string a1) (.bool a2) (.string a3) (.bool a4) (.string a5) (.bool a6) (.string a7) 46 ∧ Below w.heap.size w W
theorem KB.new (w : World) (M O G H : ByteArray) (a0 : Bool) (a1 : ByteArray) (a2 : Bool) (a3 : ByteArray) (a4 : Bool) (a5 : ByteArray) (a6 : Bool) (a7 : ByteArray) : KB w ((w.alloc (.cells #[.string M, .string O, .string G, .string H] 26)).alloc (.cells #[.bool a0, .string a1, .bool a2, .string a3, .bool a4, .string a5, .bool a6, .string a7] 46)) M O G H a0 a1 a2 a3 a4 a5 a6 a7 := by
  have h1 : Below (w.alloc (.cells #[.string M, .string O, .string G, .string H] 26)).heap.size (w.alloc (.cells #[.string M, .string O, .string G, .string H] 26)) ((w.alloc (.cells #[.string M, .string O, .string G, .string H] 26)).alloc (.cells #[.bool a0, .string a1, .bool a2, .string a3, .bool a4, .string a5, .bool a6, .string a7] 46)) := (Below.refl _ _).alloc (Nat.le_refl _) _
  refine ⟨(Bx4.new w _ _ _ _ _).next h1, ?_, ((Below.refl w.heap.size w).alloc (Nat.le_refl _) _).alloc (by simp) _⟩
  have h3 : Bx8 ((w.alloc (.cells #[.string M, .string O, .string G, .string H] 26)).alloc (.cells #[.bool a0, .string a1, .bool a2, .string a3, .bool a4, .string a5, .bool a6, .string a7] 46)) (w.alloc (.cells #[.string M, .string O, .string G, .string H] 26)).heap.size (.bool a0) (.string a1) (.bool a2) (.string a3) (.bool a4) (.string a5) (.bool a6) (.string a7) 46 := heap_alloc_new _ _
  rwa [World.size_alloc] at h3
theorem KB.next {w W W' : World} {M O G H : ByteArray} {a0 : Bool} {a1 : ByteArray} {a2 : Bool} {a3 : ByteArray} {a4 : Bool} {a5 : ByteArray} {a6 : Bool} {a7 : ByteArray} (h : KB w W M O G H a0 a1 a2 a3 a4 a5 a6 a7) (hb : Below W.heap.size W W') : KB w W' M O G H a0 a1 a2 a3 a4 a5 a6 a7 :=
  ⟨h.1.next hb, h.2.1.next hb, h.2.2.trans (hb.mono (Nat.le_of_lt h.1.lt))⟩
set_option maxRecDepth 100000 in
set_option maxHeartbeats 8000000 in
theorem walk_binds (M O G H : ByteArray) (a0 : Bool) (a1 : ByteArray) (a2 : Bool) (a3 : ByteArray) (a4 : Bool) (a5 : ByteArray) (a6 : Bool) (a7 : ByteArray) (hOm : O.size ≤ 9223372036854775807) (w : World) : Calls Try.prog 4 #[kV M O G H, .agg #[.bool a0, .string a1, .bool a2, .string a3, .bool a4, .string a5, .bool a6, .string a7]] w (Ret (.bool true) w) := by
  have HAW := Lib.hid law14_awake
  have HFW := Lib.hid (law14_Few M O G H)
  cases hf : few14 M O G H with
  | false =>
    rw [hf] at HFW
    unfold kV at *
    clear hf
    go_enter Try.func4, Try.ntmps4
    have hk := KB.new w M O G H a0 a1 a2 a3 a4 a5 a6 a7
    obtain ⟨W0, hW0⟩ : ∃ W, (w.alloc (.cells #[.string M, .string O, .string G, .string H] 26)).alloc (.cells #[.bool a0, .string a1, .bool a2, .string a3, .bool a4, .string a5, .bool a6, .string a7] 46) = W := ⟨_, rfl⟩
    rw [hW0] at hk
    have HK := Lib.hid hk
    obtain ⟨c0, c1, c2, c3⟩ := hk.1.cells
    obtain ⟨e0, e1, e2, e3, e4, e5, e6, e7⟩ := hk.2.1.cells
    clear hk
    go_wp2_with fail
    try rw [hW0]
    clear hW0
    refine (HFW.out _).mono ?_
    rintro ev w1 ⟨rfl, hb⟩
    have hk := HK.out.next hb
    have HK := Lib.hid hk
    clear hb c0 c1 c2 c3 e0 e1 e2 e3 e4 e5 e6 e7
    obtain ⟨c0, c1, c2, c3⟩ := hk.1.cells
    obtain ⟨e0, e1, e2, e3, e4, e5, e6, e7⟩ := hk.2.1.cells
    clear hk
    go_wp2_with fail
    refine (HAW.out _).mono ?_
    rintro ev w2 ⟨rfl, hb⟩
    have hk := HK.out.next hb
    have HK := Lib.hid hk
    clear hb c0 c1 c2 c3 e0 e1 e2 e3 e4 e5 e6 e7
    obtain ⟨c0, c1, c2, c3⟩ := hk.1.cells
    obtain ⟨e0, e1, e2, e3, e4, e5, e6, e7⟩ := hk.2.1.cells
    clear hk
    go_wp2
    go_ret
    exact ⟨rfl, HK.out.2.2⟩
  | true =>
    rw [hf] at HFW
    obtain ⟨h1, h2, h3, h4⟩ := few14_of3 hf
    have HCK := Lib.hid (pk_Check M O G H h1 h2 (by omega) (by omega))
    clear hf
    cases hem : O.toList.isEmpty with
    | true =>
      unfold kV at *
      clear h1 h2 h3 h4
      go_enter Try.func4, Try.ntmps4
      have hk := KB.new w M O G H a0 a1 a2 a3 a4 a5 a6 a7
      obtain ⟨W0, hW0⟩ : ∃ W, (w.alloc (.cells #[.string M, .string O, .string G, .string H] 26)).alloc (.cells #[.bool a0, .string a1, .bool a2, .string a3, .bool a4, .string a5, .bool a6, .string a7] 46) = W := ⟨_, rfl⟩
      rw [hW0] at hk
      have HK := Lib.hid hk
      obtain ⟨c0, c1, c2, c3⟩ := hk.1.cells
      obtain ⟨e0, e1, e2, e3, e4, e5, e6, e7⟩ := hk.2.1.cells
      clear hk
      go_wp2_with fail
      try rw [hW0]
      clear hW0
      refine (HFW.out _).mono ?_
      rintro ev w1 ⟨rfl, hb⟩
      have hk := HK.out.next hb
      have HK := Lib.hid hk
      clear hb c0 c1 c2 c3 e0 e1 e2 e3 e4 e5 e6 e7
      obtain ⟨c0, c1, c2, c3⟩ := hk.1.cells
      obtain ⟨e0, e1, e2, e3, e4, e5, e6, e7⟩ := hk.2.1.cells
      clear hk
      go_wp2_with fail
      refine (HAW.out _).mono ?_
      rintro ev w2 ⟨rfl, hb⟩
      have hk := HK.out.next hb
      have HK := Lib.hid hk
      clear hb c0 c1 c2 c3 e0 e1 e2 e3 e4 e5 e6 e7
      obtain ⟨c0, c1, c2, c3⟩ := hk.1.cells
      obtain ⟨e0, e1, e2, e3, e4, e5, e6, e7⟩ := hk.2.1.cells
      clear hk
      go_wp2
      go_ret
      exact ⟨rfl, HK.out.2.2⟩
    | false =>
      by_cases hc : pkC M O G H = 0
      · have HSW := Lib.hid (fun (A : Option Addr) (w : World) (hz : SlZ w A 4 4 [(a0, a1), (a2, a3), (a4, a5), (a6, a7)]) => law14_short [(a0, a1), (a2, a3), (a4, a5), (a6, a7)] A 4 4 (by omega) w hz)
        rw [hc] at HCK
        cases hs : shortZ [(a0, a1), (a2, a3), (a4, a5), (a6, a7)] with
        | false =>
          rw [hs] at HSW
          unfold kV at *
          clear h1 h2 h3 h4 hc hs
          go_enter Try.func4, Try.ntmps4
          have hk := KB.new w M O G H a0 a1 a2 a3 a4 a5 a6 a7
          obtain ⟨W0, hW0⟩ : ∃ W, (w.alloc (.cells #[.string M, .string O, .string G, .string H] 26)).alloc (.cells #[.bool a0, .string a1, .bool a2, .string a3, .bool a4, .string a5, .bool a6, .string a7] 46) = W := ⟨_, rfl⟩
          rw [hW0] at hk
          have HK := Lib.hid hk
          obtain ⟨c0, c1, c2, c3⟩ := hk.1.cells
          obtain ⟨e0, e1, e2, e3, e4, e5, e6, e7⟩ := hk.2.1.cells
          clear hk
          go_wp2_with fail
          try rw [hW0]
          clear hW0
          refine (HFW.out _).mono ?_
          rintro ev w1 ⟨rfl, hb⟩
          have hk := HK.out.next hb
          have HK := Lib.hid hk
          clear hb c0 c1 c2 c3 e0 e1 e2 e3 e4 e5 e6 e7
          obtain ⟨c0, c1, c2, c3⟩ := hk.1.cells
          obtain ⟨e0, e1, e2, e3, e4, e5, e6, e7⟩ := hk.2.1.cells
          clear hk
          go_wp2_with fail
          refine (HCK.out _).mono ?_
          rintro ev w2 ⟨rfl, hb⟩
          have hk := HK.out.next hb
          have HK := Lib.hid hk
          clear hb c0 c1 c2 c3 e0 e1 e2 e3 e4 e5 e6 e7
          obtain ⟨c0, c1, c2, c3⟩ := hk.1.cells
          obtain ⟨e0, e1, e2, e3, e4, e5, e6, e7⟩ := hk.2.1.cells
          clear hk
          go_wp2_with fail
          have hs2 := slz_alloc4 w2 a0 a2 a4 a6 a1 a3 a5 a7 38
          have hb : Below w2.heap.size w2 (w2.alloc (.cells #[.bool a0, .string a1, .bool a2, .string a3, .bool a4, .string a5, .bool a6, .string a7] 38)) := (Below.refl _ _).alloc (Nat.le_refl _) _
          have HSS := Lib.hid (HSW.out _ _ hs2)
          have hkk := HK.out.next hb
          clear hs2 hb
          try go_wp2_with fail
          refine HSS.out.mono ?_
          rintro ev w3 ⟨rfl, hb⟩
          have hk := hkk.next hb
          have HK := Lib.hid hk
          clear hkk
          clear hb c0 c1 c2 c3 e0 e1 e2 e3 e4 e5 e6 e7
          obtain ⟨c0, c1, c2, c3⟩ := hk.1.cells
          obtain ⟨e0, e1, e2, e3, e4, e5, e6, e7⟩ := hk.2.1.cells
          clear hk
          go_wp2_with fail
          refine (HAW.out _).mono ?_
          rintro ev w4 ⟨rfl, hb⟩
          have hk := HK.out.next hb
          have HK := Lib.hid hk
          clear hb c0 c1 c2 c3 e0 e1 e2 e3 e4 e5 e6 e7
          obtain ⟨c0, c1, c2, c3⟩ := hk.1.cells
          obtain ⟨e0, e1, e2, e3, e4, e5, e6, e7⟩ := hk.2.1.cells
          clear hk
          go_wp2
          go_ret
          exact ⟨rfl, HK.out.2.2⟩
        | true =>
          rw [hs] at HSW
          obtain ⟨l0, l1, l2, l3⟩ := shortZ_four hs
          have HC1 := Lib.hid (pk_Commit M O G H a0 a1 a2 a3 h1 h2 (by omega) (by omega) (by omega) (by omega))
          cases hv0 : (zvalid a0 a1 && zvalid a2 a3) with
          | false =>
            rw [cm_bad hv0] at HC1
            unfold kV oV at *
            clear h1 h2 h3 h4 hc hs l0 l1 l2 l3 hv0
            go_enter Try.func4, Try.ntmps4
            have hk := KB.new w M O G H a0 a1 a2 a3 a4 a5 a6 a7
            obtain ⟨W0, hW0⟩ : ∃ W, (w.alloc (.cells #[.string M, .string O, .string G, .string H] 26)).alloc (.cells #[.bool a0, .string a1, .bool a2, .string a3, .bool a4, .string a5, .bool a6, .string a7] 46) = W := ⟨_, rfl⟩
            rw [hW0] at hk
            have HK := Lib.hid hk
            obtain ⟨c0, c1, c2, c3⟩ := hk.1.cells
            obtain ⟨e0, e1, e2, e3, e4, e5, e6, e7⟩ := hk.2.1.cells
            clear hk
            go_wp2_with fail
            try rw [hW0]
            clear hW0
            refine (HFW.out _).mono ?_
            rintro ev w1 ⟨rfl, hb⟩
            have hk := HK.out.next hb
            have HK := Lib.hid hk
            clear hb c0 c1 c2 c3 e0 e1 e2 e3 e4 e5 e6 e7
            obtain ⟨c0, c1, c2, c3⟩ := hk.1.cells
            obtain ⟨e0, e1, e2, e3, e4, e5, e6, e7⟩ := hk.2.1.cells
            clear hk
            go_wp2_with fail
            refine (HCK.out _).mono ?_
            rintro ev w2 ⟨rfl, hb⟩
            have hk := HK.out.next hb
            have HK := Lib.hid hk
            clear hb c0 c1 c2 c3 e0 e1 e2 e3 e4 e5 e6 e7
            obtain ⟨c0, c1, c2, c3⟩ := hk.1.cells
            obtain ⟨e0, e1, e2, e3, e4, e5, e6, e7⟩ := hk.2.1.cells
            clear hk
            go_wp2_with fail
            have hs2 := slz_alloc4 w2 a0 a2 a4 a6 a1 a3 a5 a7 38
            have hb : Below w2.heap.size w2 (w2.alloc (.cells #[.bool a0, .string a1, .bool a2, .string a3, .bool a4, .string a5, .bool a6, .string a7] 38)) := (Below.refl _ _).alloc (Nat.le_refl _) _
            have HSS := Lib.hid (HSW.out _ _ hs2)
            have hkk := HK.out.next hb
            clear hs2 hb
            try go_wp2_with fail
            refine HSS.out.mono ?_
            rintro ev w3 ⟨rfl, hb⟩
            have hk := hkk.next hb
            have HK := Lib.hid hk
            clear hkk
            clear hb c0 c1 c2 c3 e0 e1 e2 e3 e4 e5 e6 e7
            obtain ⟨c0, c1, c2, c3⟩ := hk.1.cells
            obtain ⟨e0, e1, e2, e3, e4, e5, e6, e7⟩ := hk.2.1.cells
            clear hk
            go_wp2_with fail
            refine (HC1.out _).mono ?_
            rintro ev w4 ⟨rfl, hb⟩
            have hk := HK.out.next hb
            have HK := Lib.hid hk
            clear hb c0 c1 c2 c3 e0 e1 e2 e3 e4 e5 e6 e7
            obtain ⟨c0, c1, c2, c3⟩ := hk.1.cells
            obtain ⟨e0, e1, e2, e3, e4, e5, e6, e7⟩ := hk.2.1.cells
            clear hk
            go_wp2_with fail
            refine (HAW.out _).mono ?_
            rintro ev w5 ⟨rfl, hb⟩
            have hk := HK.out.next hb
            have HK := Lib.hid hk
            clear hb c0 c1 c2 c3 e0 e1 e2 e3 e4 e5 e6 e7
            obtain ⟨c0, c1, c2, c3⟩ := hk.1.cells
            obtain ⟨e0, e1, e2, e3, e4, e5, e6, e7⟩ := hk.2.1.cells
            clear hk
            go_wp2
            go_ret
            exact ⟨rfl, HK.out.2.2⟩
          | true =>
            obtain ⟨y0, y1⟩ := Bool.and_eq_true_iff.1 hv0
            obtain ⟨p1, p2, p3⟩ := zv_parts y0
            obtain ⟨p4, p5, p6⟩ := zv_parts y1
            have hbound : ∀ (b : Bool) (s : ByteArray), s.size ≤ 16 → (sg b (num s)).natAbs < 256 ^ 16 := fun b s h => by
              rw [sg_natAbs]
              exact Nat.lt_of_lt_of_le (num_lt_size s) (Nat.pow_le_pow_right (by decide) h)
            have m0 := hbound a0 a1 l0
            have m1 := hbound a2 a3 l1
            have m2 := hbound a4 a5 l2
            have m3 := hbound a6 a7 l3
            have HOP := Lib.hid (fun (c : ByteArray) => pk_Opens M O G H c a4 a5 a6 a7 h1 h2 (by omega) (by omega) (by omega) (by omega))
            have hbad : (zvalid a4 a5 && zvalid a6 a7) = false → ∀ c, opR M O G H c a4 a5 a6 a7 = false := fun h c => by
              rw [opR_of (cm_bad h)]
              rfl
            generalize sg a0 (num a1) = v0 at *
            generalize sg a2 (num a3) = r0 at *
            have hcm : cmR M O G H a0 a1 a2 a3 = .tuple #[.string (nS (cmN (num M) (num G) (num H) v0 r0)), .int .i64 0] := by
              rw [p1, p2, p4, p5]
              exact cm_int hc p3 p6
            rw [hcm] at HC1
            cases hop : opR M O G H (nS (cmN (num M) (num G) (num H) v0 r0)) a4 a5 a6 a7 with
            | false =>
              have HOQ := Lib.hid (HOP.out (nS (cmN (num M) (num G) (num H) v0 r0)))
              rw [hop] at HOQ
              obtain ⟨sA, gA⟩ : ∃ s, nS (cmN (num M) (num G) (num H) v0 r0) = s := ⟨_, rfl⟩
              rw [gA] at HC1 HOQ
              unfold kV oV at *
              clear h1 h2 h3 h4 hc hs l0 l1 l2 l3 hv0 y0 y1 p1 p2 p3 p4 p5 p6 hbound m0 m1 m2 m3 hbad hcm hop gA HOP
              go_enter Try.func4, Try.ntmps4
              have hk := KB.new w M O G H a0 a1 a2 a3 a4 a5 a6 a7
              obtain ⟨W0, hW0⟩ : ∃ W, (w.alloc (.cells #[.string M, .string O, .string G, .string H] 26)).alloc (.cells #[.bool a0, .string a1, .bool a2, .string a3, .bool a4, .string a5, .bool a6, .string a7] 46) = W := ⟨_, rfl⟩
              rw [hW0] at hk
              have HK := Lib.hid hk
              obtain ⟨c0, c1, c2, c3⟩ := hk.1.cells
              obtain ⟨e0, e1, e2, e3, e4, e5, e6, e7⟩ := hk.2.1.cells
              clear hk
              go_wp2_with fail
              try rw [hW0]
              clear hW0
              refine (HFW.out _).mono ?_
              rintro ev w1 ⟨rfl, hb⟩
              have hk := HK.out.next hb
              have HK := Lib.hid hk
              clear hb c0 c1 c2 c3 e0 e1 e2 e3 e4 e5 e6 e7
              obtain ⟨c0, c1, c2, c3⟩ := hk.1.cells
              obtain ⟨e0, e1, e2, e3, e4, e5, e6, e7⟩ := hk.2.1.cells
              clear hk
              go_wp2_with fail
              refine (HCK.out _).mono ?_
              rintro ev w2 ⟨rfl, hb⟩
              have hk := HK.out.next hb
              have HK := Lib.hid hk
              clear hb c0 c1 c2 c3 e0 e1 e2 e3 e4 e5 e6 e7
              obtain ⟨c0, c1, c2, c3⟩ := hk.1.cells
              obtain ⟨e0, e1, e2, e3, e4, e5, e6, e7⟩ := hk.2.1.cells
              clear hk
              go_wp2_with fail
              have hs2 := slz_alloc4 w2 a0 a2 a4 a6 a1 a3 a5 a7 38
              have hb : Below w2.heap.size w2 (w2.alloc (.cells #[.bool a0, .string a1, .bool a2, .string a3, .bool a4, .string a5, .bool a6, .string a7] 38)) := (Below.refl _ _).alloc (Nat.le_refl _) _
              have HSS := Lib.hid (HSW.out _ _ hs2)
              have hkk := HK.out.next hb
              clear hs2 hb
              try go_wp2_with fail
              refine HSS.out.mono ?_
              rintro ev w3 ⟨rfl, hb⟩
              have hk := hkk.next hb
              have HK := Lib.hid hk
              clear hkk
              clear hb c0 c1 c2 c3 e0 e1 e2 e3 e4 e5 e6 e7
              obtain ⟨c0, c1, c2, c3⟩ := hk.1.cells
              obtain ⟨e0, e1, e2, e3, e4, e5, e6, e7⟩ := hk.2.1.cells
              clear hk
              go_wp2_with fail
              refine (HC1.out _).mono ?_
              rintro ev w4 ⟨rfl, hb⟩
              have hk := HK.out.next hb
              have HK := Lib.hid hk
              clear hb c0 c1 c2 c3 e0 e1 e2 e3 e4 e5 e6 e7
              obtain ⟨c0, c1, c2, c3⟩ := hk.1.cells
              obtain ⟨e0, e1, e2, e3, e4, e5, e6, e7⟩ := hk.2.1.cells
              clear hk
              go_wp2_with fail
              refine (HOQ.out _).mono ?_
              rintro ev w5 ⟨rfl, hb⟩
              have hk := HK.out.next hb
              have HK := Lib.hid hk
              clear hb c0 c1 c2 c3 e0 e1 e2 e3 e4 e5 e6 e7
              obtain ⟨c0, c1, c2, c3⟩ := hk.1.cells
              obtain ⟨e0, e1, e2, e3, e4, e5, e6, e7⟩ := hk.2.1.cells
              clear hk
              go_wp2_with fail
              refine (HAW.out _).mono ?_
              rintro ev w6 ⟨rfl, hb⟩
              have hk := HK.out.next hb
              have HK := Lib.hid hk
              clear hb c0 c1 c2 c3 e0 e1 e2 e3 e4 e5 e6 e7
              obtain ⟨c0, c1, c2, c3⟩ := hk.1.cells
              obtain ⟨e0, e1, e2, e3, e4, e5, e6, e7⟩ := hk.2.1.cells
              clear hk
              go_wp2
              go_ret
              exact ⟨rfl, HK.out.2.2⟩
            | true =>
              have hv1 : (zvalid a4 a5 && zvalid a6 a7) = true := by
                cases h : (zvalid a4 a5 && zvalid a6 a7) with
                | true => rfl
                | false => rw [hbad h] at hop; cases hop
              obtain ⟨y2, y3⟩ := Bool.and_eq_true_iff.1 hv1
              obtain ⟨p7, p8, p9⟩ := zv_parts y2
              obtain ⟨p10, p11, p12⟩ := zv_parts y3
              generalize sg a4 (num a5) = v1 at *
              generalize sg a6 (num a7) = r1 at *
              have heq : cmN (num M) (num G) (num H) v1 r1 = cmN (num M) (num G) (num H) v0 r0 := by
                have h := hop
                rw [p7, p8, p10, p11, op_int hc p9 p12] at h
                exact of_decide_eq_true h
              have HOQ := Lib.hid (HOP.out (nS (cmN (num M) (num G) (num H) v0 r0)))
              rw [hop] at HOQ
              have hvO := (kF_parts2 (pkC_kF hc)).2.1
              have hO2 := nS_num hvO
              have ho8 : num O < 18446744073709551616 := nS_size_le.1 (by rw [← hO2]; exact h2)
              have ho128 : num O < 256 ^ 128 := lt128_of_lt8 ho8
              have ho0 : 0 < num O := by
                rcases Nat.eq_zero_or_pos (num O) with h | h
                · rw [h] at hO2
                  rw [hO2] at hem
                  exact absurd hem (by decide +kernel)
                · exact h
              have hk := keyF_of hc
              have ho1 : 1 < num O := by
                have h := hk.hc
                rw [chkN_some ho0] at h
                rcases Nat.lt_or_ge 1 (num O) with h' | h'
                · exact h'
                · rw [if_pos (.inr (.inl (by omega)))] at h; cases h
              have hdl := emod_lt_nat (v0 - v1) ho0
              have hsl := emod_lt_nat (r1 - r0) ho0
              have HSB1 := Lib.hid (int_SubH v0 v1 (lt16_100 m0) (lt16_100 m2))
              have HSB2 := Lib.hid (int_SubH r1 r0 (lt16_100 m3) (lt16_100 m1))
              have HMD1 := Lib.hid (int_ModA (v0 - v1) (num O) (sub16 m0 m2) ho128 ho0)
              have HMD2 := Lib.hid (int_ModA (r1 - r0) (num O) (sub16 m3 m1) ho128 ho0)
              have HLAW := Lib.hid (fun (i : Nat) (hi : ((v0 - v1) % (num O : Int)).toNat * i % num O = 1) => binds_law hk ho0 heq hi)
              have HEXP := Lib.hid (fun (X : Nat) (hX : X < 256 ^ 128) (hX8 : (nS X).size ≤ 1000) (w : World) => show Calls Try.prog 10 #[gV M O, .string H, .agg #[.bool false, .string (nS X)]] w (Ret (.tuple #[.string (nS (pz (num M) (num H) (X : Int))), .int .i64 0]) w) from by
                have h := pw_Exp M O H false (nS X) h1 h2 (by omega) hX8 w
                have he := ex_int (x := H) (b := (X : Int)) hc (kF_parts2 (pkC_kF hc)).2.2.2 (pkC_parts2 hc).2.2 (by rw [Int.natAbs_natCast]; exact hX)
                rw [decide_eq_false (by omega), Int.natAbs_natCast] at he
                rw [he] at h
                exact h)
              have HGN := Lib.hid (nS_num (kF_parts2 (pkC_kF hc)).2.2.1)
              have HFR := Lib.hid (fun (X : Nat) (hX : X < 256 ^ 128) (w : World) => show Calls Try.prog 21 #[.string (nS X)] w (Ret (.agg #[.bool false, .string (nS X)]) w) from by
                have h := int_From X hX w
                rw [intV_nat] at h
                exact h)
              have HO8 := Lib.hid ho8
              have HO0 := Lib.hid ho0
              have HO28 := Lib.hid ho128
              rw [← hO2] at HMD1 HMD2
              by_cases hg : Nat.gcd ((v0 - v1) % (num O : Int)).toNat (num O) = 1
              · have HIV := Lib.hid (mod_Inverse _ _ hdl ho8 ho1 hg)
                have HMU := Lib.hid (fun (i : Nat) (hi : i < num O) => mod_Mul ((r1 - r0) % (num O : Int)).toNat i (num O) (by omega) (by omega) ho8 ho0)
                rw [← hO2] at HIV HMU
                have q1 := p1
                have q2 := p2
                have q4 := p4
                have q5 := p5
                obtain ⟨sA, gA⟩ : ∃ s, nS (cmN (num M) (num G) (num H) v0 r0) = s := ⟨_, rfl⟩
                obtain ⟨nd, gd⟩ : ∃ n, ((v0 - v1) % (num O : Int)).toNat = n := ⟨_, rfl⟩
                obtain ⟨ns, gs⟩ : ∃ n, ((r1 - r0) % (num O : Int)).toNat = n := ⟨_, rfl⟩
                have GD := Lib.hid gd
                have GS := Lib.hid gs
                rw [gA] at HC1 HOQ
                rw [gd] at HMD1 HIV
                rw [gs] at HMD2 HMU
                obtain ⟨sd, gsd⟩ : ∃ s, nS nd = s := ⟨_, rfl⟩
                rw [gsd] at HMD1 HIV
                obtain ⟨ss, gss⟩ : ∃ s, nS ns = s := ⟨_, rfl⟩
                rw [gss] at HMD2 HMU
                unfold kV oV gV at *
                unfold intV zV at *
                rw [← p1, ← p2, ← p7, ← p8] at HSB1
                rw [← p10, ← p11, ← p4, ← p5] at HSB2
                obtain ⟨u1, gu1⟩ : ∃ b, decide (v0 - v1 < 0) = b := ⟨_, rfl⟩
                obtain ⟨u2, gu2⟩ : ∃ s, nS (v0 - v1).natAbs = s := ⟨_, rfl⟩
                obtain ⟨u3, gu3⟩ : ∃ b, decide (r1 - r0 < 0) = b := ⟨_, rfl⟩
                obtain ⟨u4, gu4⟩ : ∃ s, nS (r1 - r0).natAbs = s := ⟨_, rfl⟩
                rw [gu1, gu2] at HSB1 HMD1
                rw [gu3, gu4] at HSB2 HMD2
                clear q1 q2 q4 q5 gA gd gs gsd gss gu1 gu2 gu3 gu4
                clear h1 h2 h3 h4 hc hs l0 l1 l2 l3 hv0 y0 y1 p1 p2 p3 p4 p5 p6 hbound m0 m1 m2 m3 hbad hcm hop HOP hv1 y2 y3 p7 p8 p9 p10 p11 p12 heq hvO hO2 ho8 ho128 ho0 ho1 hk hdl hsl hg
                go_enter Try.func4, Try.ntmps4
                have hk := KB.new w M O G H a0 a1 a2 a3 a4 a5 a6 a7
                obtain ⟨W0, hW0⟩ : ∃ W, (w.alloc (.cells #[.string M, .string O, .string G, .string H] 26)).alloc (.cells #[.bool a0, .string a1, .bool a2, .string a3, .bool a4, .string a5, .bool a6, .string a7] 46) = W := ⟨_, rfl⟩
                rw [hW0] at hk
                have HK := Lib.hid hk
                obtain ⟨c0, c1, c2, c3⟩ := hk.1.cells
                obtain ⟨e0, e1, e2, e3, e4, e5, e6, e7⟩ := hk.2.1.cells
                clear hk
                go_wp2_with fail
                try rw [hW0]
                clear hW0
                refine (HFW.out _).mono ?_
                rintro ev w1 ⟨rfl, hb⟩
                have hk := HK.out.next hb
                have HK := Lib.hid hk
                clear hb c0 c1 c2 c3 e0 e1 e2 e3 e4 e5 e6 e7
                obtain ⟨c0, c1, c2, c3⟩ := hk.1.cells
                obtain ⟨e0, e1, e2, e3, e4, e5, e6, e7⟩ := hk.2.1.cells
                clear hk
                go_wp2_with fail
                refine (HCK.out _).mono ?_
                rintro ev w2 ⟨rfl, hb⟩
                have hk := HK.out.next hb
                have HK := Lib.hid hk
                clear hb c0 c1 c2 c3 e0 e1 e2 e3 e4 e5 e6 e7
                obtain ⟨c0, c1, c2, c3⟩ := hk.1.cells
                obtain ⟨e0, e1, e2, e3, e4, e5, e6, e7⟩ := hk.2.1.cells
                clear hk
                go_wp2_with fail
                have hs2 := slz_alloc4 w2 a0 a2 a4 a6 a1 a3 a5 a7 38
                have hb : Below w2.heap.size w2 (w2.alloc (.cells #[.bool a0, .string a1, .bool a2, .string a3, .bool a4, .string a5, .bool a6, .string a7] 38)) := (Below.refl _ _).alloc (Nat.le_refl _) _
                have HSS := Lib.hid (HSW.out _ _ hs2)
                have hkk := HK.out.next hb
                clear hs2 hb
                try go_wp2_with fail
                refine HSS.out.mono ?_
                rintro ev w3 ⟨rfl, hb⟩
                have hk := hkk.next hb
                have HK := Lib.hid hk
                clear hkk
                clear hb c0 c1 c2 c3 e0 e1 e2 e3 e4 e5 e6 e7
                obtain ⟨c0, c1, c2, c3⟩ := hk.1.cells
                obtain ⟨e0, e1, e2, e3, e4, e5, e6, e7⟩ := hk.2.1.cells
                clear hk
                go_wp2_with fail
                refine (HC1.out _).mono ?_
                rintro ev w4 ⟨rfl, hb⟩
                have hk := HK.out.next hb
                have HK := Lib.hid hk
                clear hb c0 c1 c2 c3 e0 e1 e2 e3 e4 e5 e6 e7
                obtain ⟨c0, c1, c2, c3⟩ := hk.1.cells
                obtain ⟨e0, e1, e2, e3, e4, e5, e6, e7⟩ := hk.2.1.cells
                clear hk
                go_wp2_with fail
                refine (HOQ.out _).mono ?_
                rintro ev w5 ⟨rfl, hb⟩
                have hk := HK.out.next hb
                have HK := Lib.hid hk
                clear hb c0 c1 c2 c3 e0 e1 e2 e3 e4 e5 e6 e7
                obtain ⟨c0, c1, c2, c3⟩ := hk.1.cells
                obtain ⟨e0, e1, e2, e3, e4, e5, e6, e7⟩ := hk.2.1.cells
                clear hk
                go_wp2_with fail
                refine (HSB1.out _).mono ?_
                rintro ev w6 ⟨rfl, hb⟩
                have HBL := Lib.hid hb
                have hk := HK.out.next hb
                have HK := Lib.hid hk
                clear hb c0 c1 c2 c3 e0 e1 e2 e3 e4 e5 e6 e7
                obtain ⟨c0, c1, c2, c3⟩ := hk.1.cells
                obtain ⟨e0, e1, e2, e3, e4, e5, e6, e7⟩ := hk.2.1.cells
                clear hk
                have hb : Below w6.heap.size w6 (w6.alloc (.cells #[.bool u1, .string u2] 38)) := (Below.refl _ _).alloc (Nat.le_refl _) _
                have hn := Bx2.new w6 (.bool u1) (.string u2) 38
                obtain ⟨W6, hW6⟩ : ∃ W, w6.alloc (.cells #[.bool u1, .string u2] 38) = W := ⟨_, rfl⟩
                obtain ⟨B6, hB6⟩ : ∃ B, w6.heap.size = B := ⟨_, rfl⟩
                rw [hW6] at hb hn
                rw [hB6] at hn
                have HN6 := Lib.hid hn
                clear hn
                have hk := HK.out.next hb
                have HK := Lib.hid hk
                clear hb c0 c1 c2 c3 e0 e1 e2 e3 e4 e5 e6 e7
                obtain ⟨c0, c1, c2, c3⟩ := hk.1.cells
                obtain ⟨e0, e1, e2, e3, e4, e5, e6, e7⟩ := hk.2.1.cells
                clear hk
                go_wp2_with fail
                try rw [hW6]
                try rw [hB6]
                clear hW6 hB6
                refine (HSB2.out _).mono ?_
                rintro ev w7 ⟨rfl, hb⟩
                have HBL := Lib.hid hb
                have hk := HK.out.next hb
                have HK := Lib.hid hk
                clear hb c0 c1 c2 c3 e0 e1 e2 e3 e4 e5 e6 e7
                obtain ⟨c0, c1, c2, c3⟩ := hk.1.cells
                obtain ⟨e0, e1, e2, e3, e4, e5, e6, e7⟩ := hk.2.1.cells
                clear hk
                have HN6 := Lib.hid (HN6.out.next HBL.out)
                have hb : Below w7.heap.size w7 (w7.alloc (.cells #[.bool u3, .string u4] 38)) := (Below.refl _ _).alloc (Nat.le_refl _) _
                have hn := Bx2.new w7 (.bool u3) (.string u4) 38
                obtain ⟨W7, hW7⟩ : ∃ W, w7.alloc (.cells #[.bool u3, .string u4] 38) = W := ⟨_, rfl⟩
                obtain ⟨B7, hB7⟩ : ∃ B, w7.heap.size = B := ⟨_, rfl⟩
                rw [hW7] at hb hn
                rw [hB7] at hn
                have HN6 := Lib.hid (HN6.out.next hb)
                have HN7 := Lib.hid hn
                clear hn
                have hk := HK.out.next hb
                have HK := Lib.hid hk
                clear hb c0 c1 c2 c3 e0 e1 e2 e3 e4 e5 e6 e7
                obtain ⟨c0, c1, c2, c3⟩ := hk.1.cells
                obtain ⟨e0, e1, e2, e3, e4, e5, e6, e7⟩ := hk.2.1.cells
                clear hk
                have n0 := HN6.out.c0
                have n1 := HN6.out.c1
                go_wp2_with fail
                try rw [hW7]
                try rw [hB7]
                clear hW7 hB7 n0 n1
                refine (HMD1.out _).mono ?_
                rintro ev w8 ⟨rfl, hb⟩
                have HBL := Lib.hid hb
                have hk := HK.out.next hb
                have HK := Lib.hid hk
                clear hb c0 c1 c2 c3 e0 e1 e2 e3 e4 e5 e6 e7
                obtain ⟨c0, c1, c2, c3⟩ := hk.1.cells
                obtain ⟨e0, e1, e2, e3, e4, e5, e6, e7⟩ := hk.2.1.cells
                clear hk
                have HN7 := Lib.hid (HN7.out.next HBL.out)
                have n0 := HN7.out.c0
                have n1 := HN7.out.c1
                go_wp2_with fail
                clear n0 n1
                refine (HMD2.out _).mono ?_
                rintro ev w9 ⟨rfl, hb⟩
                have hk := HK.out.next hb
                have HK := Lib.hid hk
                clear hb c0 c1 c2 c3 e0 e1 e2 e3 e4 e5 e6 e7
                obtain ⟨c0, c1, c2, c3⟩ := hk.1.cells
                obtain ⟨e0, e1, e2, e3, e4, e5, e6, e7⟩ := hk.2.1.cells
                clear hk
                go_wp2_with fail
                refine (HIV.out _).mono ?_
                rintro ev w11 ⟨xi, rfl, hb, hxl, hxi⟩
                have hk := HK.out.next hb
                have HK := Lib.hid hk
                clear hb c0 c1 c2 c3 e0 e1 e2 e3 e4 e5 e6 e7
                obtain ⟨c0, c1, c2, c3⟩ := hk.1.cells
                obtain ⟨e0, e1, e2, e3, e4, e5, e6, e7⟩ := hk.2.1.cells
                clear hk
                have HMUx := Lib.hid (HMU.out xi hxl)
                have HL := Lib.hid (HLAW.out xi (by rw [GD.out]; exact hxi))
                rw [GS.out] at HL
                obtain ⟨X, hX⟩ : ∃ X, ns * xi % num O = X := ⟨_, rfl⟩
                have hXl : X < num O := by rw [← hX]; exact Nat.mod_lt _ HO0.out
                have hX128 : X < 256 ^ 128 := Nat.lt_trans hXl HO28.out
                have hXs : (nS X).size ≤ 1000 := by have := nS_size_le.2 hX128; omega
                have HFRx := Lib.hid (HFR.out X hX128)
                have HEXx := Lib.hid (HEXP.out X hX128 hXs)
                rw [hX] at HL
                rw [HL.out, ← HGN.out] at HEXx
                rw [hX] at HMUx
                obtain ⟨sX, hsX⟩ : ∃ s, nS X = s := ⟨_, rfl⟩
                obtain ⟨sI, hsI⟩ : ∃ s, nS xi = s := ⟨_, rfl⟩
                rw [hsX] at HMUx HFRx HEXx
                rw [hsI] at HMUx ⊢
                clear hX hXl hX128 hXs hsX hsI hxl hxi
                go_wp2_with fail
                refine (HMUx.out _).mono ?_
                rintro ev w12 ⟨rfl, hb⟩
                have hk := HK.out.next hb
                have HK := Lib.hid hk
                clear hb c0 c1 c2 c3 e0 e1 e2 e3 e4 e5 e6 e7
                obtain ⟨c0, c1, c2, c3⟩ := hk.1.cells
                obtain ⟨e0, e1, e2, e3, e4, e5, e6, e7⟩ := hk.2.1.cells
                clear hk
                go_wp2
                obtain ⟨g0, g1, g2, g3⟩ := (show KB w w12.drew M O G H a0 a1 a2 a3 a4 a5 a6 a7 from HK.out.next (Below.refl _ _).drew).1.cells
                clear c0 c1 c2 c3 e0 e1 e2 e3 e4 e5 e6 e7
                refine wp_region_K 12 (Below (w12.drew).heap.size (w12.drew)) (by kernel_rfl) ?_
                intro hD
                refine wpAnyK_pureD (i := 0) (d := some 138) (v := ?v17_0b1) (fuel := 11) rfl (by kernel_rfl) (by kernel_rfl) (fun _ _ _ h => h) hD (Below.refl _ _) (.inl ⟨by kernel_rfl, ?y17_0b1⟩) ?n17_0b1
                case y17_0b1 => intro w' _; go_simp; with_reducible rfl
                clear hD; intro hD
                simp only [Act.put, List.setIfInBounds_toArray, List.set_cons_zero, List.set_cons_succ]
                refine wpAnyK_takeSD (i := 1) (d := some 139) (v := ?v17_1b1) (fuel := 10) rfl (by kernel_rfl) (by kernel_rfl) (by kernel_rfl) (fun _ _ _ h => h) hD (Below.refl _ _) (.inl ⟨by kernel_rfl, ?y17_1b1⟩) ?n17_1b1
                case y17_1b1 => intro w' hS'; have e0 := cell_kept hS' (Nat.le_refl _) g0; have e1 := cell_kept hS' (Nat.le_refl _) g1; have e2 := cell_kept hS' (Nat.le_refl _) g2; have e3 := cell_kept hS' (Nat.le_refl _) g3; go_simp; with_reducible rfl
                clear hD; intro hD
                simp only [Act.put, List.setIfInBounds_toArray, List.set_cons_zero, List.set_cons_succ]
                refine wpAnyK_pureD (i := 2) (d := some 140) (v := ?v17_2b1) (fuel := 9) rfl (by kernel_rfl) (by kernel_rfl) (fun _ _ _ h => h) hD (Below.refl _ _) (.inl ⟨by kernel_rfl, ?y17_2b1⟩) ?n17_2b1
                case y17_2b1 => intro w' _; go_simp; with_reducible rfl
                clear hD; intro hD
                simp only [Act.put, List.setIfInBounds_toArray, List.set_cons_zero, List.set_cons_succ]
                refine wpAnyK_takeSD (i := 3) (d := some 141) (v := ?v17_3b1) (fuel := 8) rfl (by kernel_rfl) (by kernel_rfl) (by kernel_rfl) (fun _ _ _ h => h) hD (Below.refl _ _) (.inl ⟨by kernel_rfl, ?y17_3b1⟩) ?n17_3b1
                case y17_3b1 => intro w' hS'; have e0 := cell_kept hS' (Nat.le_refl _) g0; have e1 := cell_kept hS' (Nat.le_refl _) g1; have e2 := cell_kept hS' (Nat.le_refl _) g2; have e3 := cell_kept hS' (Nat.le_refl _) g3; go_simp; with_reducible rfl
                clear hD; intro hD
                simp only [Act.put, List.setIfInBounds_toArray, List.set_cons_zero, List.set_cons_succ]
                refine wpAnyK_pureD (i := 4) (d := some 142) (v := ?v17_4b1) (fuel := 7) rfl (by kernel_rfl) (by kernel_rfl) (fun _ _ _ h => h) hD (Below.refl _ _) (.inl ⟨by kernel_rfl, ?y17_4b1⟩) ?n17_4b1
                case y17_4b1 => intro w' _; go_simp; with_reducible rfl
                clear hD; intro hD
                simp only [Act.put, List.setIfInBounds_toArray, List.set_cons_zero, List.set_cons_succ]
                refine wpAnyK_one (i := 5) (fuel := 6) (by kernel_rfl) rfl hD ?_
                clear hD; intro K5 hK5
                go_wp2_with fail
                refine (HFRx.out _).mono ?_
                rintro ev u5 ⟨rfl, hb⟩
                have HB5 := Lib.hid hb
                clear hb
                go_wp2
                refine hK5 _ _ (by exact HB5.out) ?_; clear hK5; intro hS_17_5 hD
                refine wpAnyK_one (i := 6) (fuel := 5) (by kernel_rfl) rfl hD ?_
                clear hD; intro K6 hK6
                go_wp2_with fail
                refine (HEXx.out _).mono ?_
                rintro ev u6 ⟨rfl, hb⟩
                have HB6 := Lib.hid hb
                clear hb
                go_wp2
                refine hK6 _ _ (by exact Below.trans hS_17_5 (Below.mono HB6.out (Below.size hS_17_5))) ?_; clear hK6; intro hS_17_6 hD
                refine wpAnyK_pureD (i := 7) (d := some 137) (v := ?v17_7b1) (fuel := 4) rfl (by kernel_rfl) (by kernel_rfl) (fun _ _ _ h => h) hD hS_17_6 (.inl ⟨by kernel_rfl, ?y17_7b1⟩) ?n17_7b1
                case y17_7b1 => intro w' _; go_simp; with_reducible rfl
                clear hD; intro hD
                simp only [Act.put, List.setIfInBounds_toArray, List.set_cons_zero, List.set_cons_succ]
                refine wpAnyK_pureD (i := 8) (d := some 145) (v := ?v17_8b1) (fuel := 3) rfl (by kernel_rfl) (by kernel_rfl) (fun _ _ _ h => h) hD hS_17_6 (.inl ⟨by kernel_rfl, ?y17_8b1⟩) ?n17_8b1
                case y17_8b1 => intro w' _; go_simp; with_reducible rfl
                clear hD; intro hD
                simp only [Act.put, List.setIfInBounds_toArray, List.set_cons_zero, List.set_cons_succ]
                refine wpAnyK_pureD (i := 9) (d := some 146) (v := ?v17_9b1) (fuel := 2) rfl (by kernel_rfl) (by kernel_rfl) (fun _ _ _ h => h) hD hS_17_6 (.inl ⟨by kernel_rfl, ?y17_9b1⟩) ?n17_9b1
                case y17_9b1 => intro w' _; go_simp; with_reducible rfl
                clear hD; intro hD
                simp only [Act.put, List.setIfInBounds_toArray, List.set_cons_zero, List.set_cons_succ]
                refine wpAnyK_one (i := 10) (fuel := 1) (by kernel_rfl) rfl hD ?_
                clear hD; intro K10 hK10
                go_wp2
                refine hK10 _ _ (by exact hS_17_6) ?_; clear hK10; intro hS_17_10 hD
                refine wpAnyK_one (i := 11) (fuel := 0) (by kernel_rfl) rfl hD ?_
                clear hD; intro K11 hK11
                go_wp2
                refine hK11 _ _ (by exact hS_17_10) ?_; clear hK11; intro hS_17_11 hD
                refine wpAnyK_done (by kernel_rfl) ?_ 0
                clear hD
                have HS8 := Lib.hid hS_17_11
                have hb : Below w12.heap.size w12 u6 := (Below.refl _ _).drew.trans HS8.out
                have hk := HK.out.next hb
                have HK := Lib.hid hk
                clear hb g0 g1 g2 g3
                obtain ⟨c0, c1, c2, c3⟩ := hk.1.cells
                obtain ⟨e0, e1, e2, e3, e4, e5, e6, e7⟩ := hk.2.1.cells
                clear hk
                go_wp2_with fail
                refine (HAW.out _).mono ?_
                rintro ev w13 ⟨rfl, hb⟩
                have hk := HK.out.next hb
                have HK := Lib.hid hk
                clear hb c0 c1 c2 c3 e0 e1 e2 e3 e4 e5 e6 e7
                obtain ⟨c0, c1, c2, c3⟩ := hk.1.cells
                obtain ⟨e0, e1, e2, e3, e4, e5, e6, e7⟩ := hk.2.1.cells
                clear hk
                go_wp2
                go_ret
                exact ⟨rfl, HK.out.2.2⟩
              · have HIV := Lib.hid (mod_Inverse_none _ _ hdl ho8 ho1 hg)
                rw [← hO2] at HIV
                have q1 := p1
                have q2 := p2
                have q4 := p4
                have q5 := p5
                obtain ⟨sA, gA⟩ : ∃ s, nS (cmN (num M) (num G) (num H) v0 r0) = s := ⟨_, rfl⟩
                obtain ⟨nd, gd⟩ : ∃ n, ((v0 - v1) % (num O : Int)).toNat = n := ⟨_, rfl⟩
                obtain ⟨ns, gs⟩ : ∃ n, ((r1 - r0) % (num O : Int)).toNat = n := ⟨_, rfl⟩
                have GD := Lib.hid gd
                have GS := Lib.hid gs
                rw [gA] at HC1 HOQ
                rw [gd] at HMD1 HIV
                rw [gs] at HMD2
                obtain ⟨sd, gsd⟩ : ∃ s, nS nd = s := ⟨_, rfl⟩
                rw [gsd] at HMD1 HIV
                obtain ⟨ss, gss⟩ : ∃ s, nS ns = s := ⟨_, rfl⟩
                rw [gss] at HMD2
                unfold kV oV gV at *
                unfold intV zV at *
                rw [← p1, ← p2, ← p7, ← p8] at HSB1
                rw [← p10, ← p11, ← p4, ← p5] at HSB2
                obtain ⟨u1, gu1⟩ : ∃ b, decide (v0 - v1 < 0) = b := ⟨_, rfl⟩
                obtain ⟨u2, gu2⟩ : ∃ s, nS (v0 - v1).natAbs = s := ⟨_, rfl⟩
                obtain ⟨u3, gu3⟩ : ∃ b, decide (r1 - r0 < 0) = b := ⟨_, rfl⟩
                obtain ⟨u4, gu4⟩ : ∃ s, nS (r1 - r0).natAbs = s := ⟨_, rfl⟩
                rw [gu1, gu2] at HSB1 HMD1
                rw [gu3, gu4] at HSB2 HMD2
                clear q1 q2 q4 q5 gA gd gs gsd gss gu1 gu2 gu3 gu4
                clear h1 h2 h3 h4 hc hs l0 l1 l2 l3 hv0 y0 y1 p1 p2 p3 p4 p5 p6 hbound m0 m1 m2 m3 hbad hcm hop HOP hv1 y2 y3 p7 p8 p9 p10 p11 p12 heq hvO hO2 ho8 ho128 ho0 ho1 hk hdl hsl hg
                clear HLAW HEXP HGN HFR
                go_enter Try.func4, Try.ntmps4
                have hk := KB.new w M O G H a0 a1 a2 a3 a4 a5 a6 a7
                obtain ⟨W0, hW0⟩ : ∃ W, (w.alloc (.cells #[.string M, .string O, .string G, .string H] 26)).alloc (.cells #[.bool a0, .string a1, .bool a2, .string a3, .bool a4, .string a5, .bool a6, .string a7] 46) = W := ⟨_, rfl⟩
                rw [hW0] at hk
                have HK := Lib.hid hk
                obtain ⟨c0, c1, c2, c3⟩ := hk.1.cells
                obtain ⟨e0, e1, e2, e3, e4, e5, e6, e7⟩ := hk.2.1.cells
                clear hk
                go_wp2_with fail
                try rw [hW0]
                clear hW0
                refine (HFW.out _).mono ?_
                rintro ev w1 ⟨rfl, hb⟩
                have hk := HK.out.next hb
                have HK := Lib.hid hk
                clear hb c0 c1 c2 c3 e0 e1 e2 e3 e4 e5 e6 e7
                obtain ⟨c0, c1, c2, c3⟩ := hk.1.cells
                obtain ⟨e0, e1, e2, e3, e4, e5, e6, e7⟩ := hk.2.1.cells
                clear hk
                go_wp2_with fail
                refine (HCK.out _).mono ?_
                rintro ev w2 ⟨rfl, hb⟩
                have hk := HK.out.next hb
                have HK := Lib.hid hk
                clear hb c0 c1 c2 c3 e0 e1 e2 e3 e4 e5 e6 e7
                obtain ⟨c0, c1, c2, c3⟩ := hk.1.cells
                obtain ⟨e0, e1, e2, e3, e4, e5, e6, e7⟩ := hk.2.1.cells
                clear hk
                go_wp2_with fail
                have hs2 := slz_alloc4 w2 a0 a2 a4 a6 a1 a3 a5 a7 38
                have hb : Below w2.heap.size w2 (w2.alloc (.cells #[.bool a0, .string a1, .bool a2, .string a3, .bool a4, .string a5, .bool a6, .string a7] 38)) := (Below.refl _ _).alloc (Nat.le_refl _) _
                have HSS := Lib.hid (HSW.out _ _ hs2)
                have hkk := HK.out.next hb
                clear hs2 hb
                try go_wp2_with fail
                refine HSS.out.mono ?_
                rintro ev w3 ⟨rfl, hb⟩
                have hk := hkk.next hb
                have HK := Lib.hid hk
                clear hkk
                clear hb c0 c1 c2 c3 e0 e1 e2 e3 e4 e5 e6 e7
                obtain ⟨c0, c1, c2, c3⟩ := hk.1.cells
                obtain ⟨e0, e1, e2, e3, e4, e5, e6, e7⟩ := hk.2.1.cells
                clear hk
                go_wp2_with fail
                refine (HC1.out _).mono ?_
                rintro ev w4 ⟨rfl, hb⟩
                have hk := HK.out.next hb
                have HK := Lib.hid hk
                clear hb c0 c1 c2 c3 e0 e1 e2 e3 e4 e5 e6 e7
                obtain ⟨c0, c1, c2, c3⟩ := hk.1.cells
                obtain ⟨e0, e1, e2, e3, e4, e5, e6, e7⟩ := hk.2.1.cells
                clear hk
                go_wp2_with fail
                refine (HOQ.out _).mono ?_
                rintro ev w5 ⟨rfl, hb⟩
                have hk := HK.out.next hb
                have HK := Lib.hid hk
                clear hb c0 c1 c2 c3 e0 e1 e2 e3 e4 e5 e6 e7
                obtain ⟨c0, c1, c2, c3⟩ := hk.1.cells
                obtain ⟨e0, e1, e2, e3, e4, e5, e6, e7⟩ := hk.2.1.cells
                clear hk
                go_wp2_with fail
                refine (HSB1.out _).mono ?_
                rintro ev w6 ⟨rfl, hb⟩
                have HBL := Lib.hid hb
                have hk := HK.out.next hb
                have HK := Lib.hid hk
                clear hb c0 c1 c2 c3 e0 e1 e2 e3 e4 e5 e6 e7
                obtain ⟨c0, c1, c2, c3⟩ := hk.1.cells
                obtain ⟨e0, e1, e2, e3, e4, e5, e6, e7⟩ := hk.2.1.cells
                clear hk
                have hb : Below w6.heap.size w6 (w6.alloc (.cells #[.bool u1, .string u2] 38)) := (Below.refl _ _).alloc (Nat.le_refl _) _
                have hn := Bx2.new w6 (.bool u1) (.string u2) 38
                obtain ⟨W6, hW6⟩ : ∃ W, w6.alloc (.cells #[.bool u1, .string u2] 38) = W := ⟨_, rfl⟩
                obtain ⟨B6, hB6⟩ : ∃ B, w6.heap.size = B := ⟨_, rfl⟩
                rw [hW6] at hb hn
                rw [hB6] at hn
                have HN6 := Lib.hid hn
                clear hn
                have hk := HK.out.next hb
                have HK := Lib.hid hk
                clear hb c0 c1 c2 c3 e0 e1 e2 e3 e4 e5 e6 e7
                obtain ⟨c0, c1, c2, c3⟩ := hk.1.cells
                obtain ⟨e0, e1, e2, e3, e4, e5, e6, e7⟩ := hk.2.1.cells
                clear hk
                go_wp2_with fail
                try rw [hW6]
                try rw [hB6]
                clear hW6 hB6
                refine (HSB2.out _).mono ?_
                rintro ev w7 ⟨rfl, hb⟩
                have HBL := Lib.hid hb
                have hk := HK.out.next hb
                have HK := Lib.hid hk
                clear hb c0 c1 c2 c3 e0 e1 e2 e3 e4 e5 e6 e7
                obtain ⟨c0, c1, c2, c3⟩ := hk.1.cells
                obtain ⟨e0, e1, e2, e3, e4, e5, e6, e7⟩ := hk.2.1.cells
                clear hk
                have HN6 := Lib.hid (HN6.out.next HBL.out)
                have hb : Below w7.heap.size w7 (w7.alloc (.cells #[.bool u3, .string u4] 38)) := (Below.refl _ _).alloc (Nat.le_refl _) _
                have hn := Bx2.new w7 (.bool u3) (.string u4) 38
                obtain ⟨W7, hW7⟩ : ∃ W, w7.alloc (.cells #[.bool u3, .string u4] 38) = W := ⟨_, rfl⟩
                obtain ⟨B7, hB7⟩ : ∃ B, w7.heap.size = B := ⟨_, rfl⟩
                rw [hW7] at hb hn
                rw [hB7] at hn
                have HN6 := Lib.hid (HN6.out.next hb)
                have HN7 := Lib.hid hn
                clear hn
                have hk := HK.out.next hb
                have HK := Lib.hid hk
                clear hb c0 c1 c2 c3 e0 e1 e2 e3 e4 e5 e6 e7
                obtain ⟨c0, c1, c2, c3⟩ := hk.1.cells
                obtain ⟨e0, e1, e2, e3, e4, e5, e6, e7⟩ := hk.2.1.cells
                clear hk
                have n0 := HN6.out.c0
                have n1 := HN6.out.c1
                go_wp2_with fail
                try rw [hW7]
                try rw [hB7]
                clear hW7 hB7 n0 n1
                refine (HMD1.out _).mono ?_
                rintro ev w8 ⟨rfl, hb⟩
                have HBL := Lib.hid hb
                have hk := HK.out.next hb
                have HK := Lib.hid hk
                clear hb c0 c1 c2 c3 e0 e1 e2 e3 e4 e5 e6 e7
                obtain ⟨c0, c1, c2, c3⟩ := hk.1.cells
                obtain ⟨e0, e1, e2, e3, e4, e5, e6, e7⟩ := hk.2.1.cells
                clear hk
                have HN7 := Lib.hid (HN7.out.next HBL.out)
                have n0 := HN7.out.c0
                have n1 := HN7.out.c1
                go_wp2_with fail
                clear n0 n1
                refine (HMD2.out _).mono ?_
                rintro ev w9 ⟨rfl, hb⟩
                have hk := HK.out.next hb
                have HK := Lib.hid hk
                clear hb c0 c1 c2 c3 e0 e1 e2 e3 e4 e5 e6 e7
                obtain ⟨c0, c1, c2, c3⟩ := hk.1.cells
                obtain ⟨e0, e1, e2, e3, e4, e5, e6, e7⟩ := hk.2.1.cells
                clear hk
                go_wp2_with fail
                refine (HIV.out _).mono ?_
                rintro ev w11 ⟨rfl, hb⟩
                have hk := HK.out.next hb
                have HK := Lib.hid hk
                clear hb c0 c1 c2 c3 e0 e1 e2 e3 e4 e5 e6 e7
                obtain ⟨c0, c1, c2, c3⟩ := hk.1.cells
                obtain ⟨e0, e1, e2, e3, e4, e5, e6, e7⟩ := hk.2.1.cells
                clear hk
                go_wp2_with fail
                refine (HAW.out _).mono ?_
                rintro ev w12 ⟨rfl, hb⟩
                have hk := HK.out.next hb
                have HK := Lib.hid hk
                clear hb c0 c1 c2 c3 e0 e1 e2 e3 e4 e5 e6 e7
                obtain ⟨c0, c1, c2, c3⟩ := hk.1.cells
                obtain ⟨e0, e1, e2, e3, e4, e5, e6, e7⟩ := hk.2.1.cells
                clear hk
                go_wp2
                go_ret
                exact ⟨rfl, HK.out.2.2⟩
      · obtain ⟨k, hk⟩ : ∃ k, pkC M O G H = k := ⟨_, rfl⟩
        rw [hk] at HCK hc
        have i3 : (k == 0) = false := beq_eq_false_iff_ne.2 hc
        unfold kV at *
        clear h1 h2 h3 h4 hk
        go_enter Try.func4, Try.ntmps4
        have hk := KB.new w M O G H a0 a1 a2 a3 a4 a5 a6 a7
        obtain ⟨W0, hW0⟩ : ∃ W, (w.alloc (.cells #[.string M, .string O, .string G, .string H] 26)).alloc (.cells #[.bool a0, .string a1, .bool a2, .string a3, .bool a4, .string a5, .bool a6, .string a7] 46) = W := ⟨_, rfl⟩
        rw [hW0] at hk
        have HK := Lib.hid hk
        obtain ⟨c0, c1, c2, c3⟩ := hk.1.cells
        obtain ⟨e0, e1, e2, e3, e4, e5, e6, e7⟩ := hk.2.1.cells
        clear hk
        go_wp2_with fail
        try rw [hW0]
        clear hW0
        refine (HFW.out _).mono ?_
        rintro ev w1 ⟨rfl, hb⟩
        have hk := HK.out.next hb
        have HK := Lib.hid hk
        clear hb c0 c1 c2 c3 e0 e1 e2 e3 e4 e5 e6 e7
        obtain ⟨c0, c1, c2, c3⟩ := hk.1.cells
        obtain ⟨e0, e1, e2, e3, e4, e5, e6, e7⟩ := hk.2.1.cells
        clear hk
        go_wp2_with fail
        refine (HCK.out _).mono ?_
        rintro ev w2 ⟨rfl, hb⟩
        have hk := HK.out.next hb
        have HK := Lib.hid hk
        clear hb c0 c1 c2 c3 e0 e1 e2 e3 e4 e5 e6 e7
        obtain ⟨c0, c1, c2, c3⟩ := hk.1.cells
        obtain ⟨e0, e1, e2, e3, e4, e5, e6, e7⟩ := hk.2.1.cells
        clear hk
        go_wp2_with fail
        refine (HAW.out _).mono ?_
        rintro ev w3 ⟨rfl, hb⟩
        have hk := HK.out.next hb
        have HK := Lib.hid hk
        clear hb c0 c1 c2 c3 e0 e1 e2 e3 e4 e5 e6 e7
        obtain ⟨c0, c1, c2, c3⟩ := hk.1.cells
        obtain ⟨e0, e1, e2, e3, e4, e5, e6, e7⟩ := hk.2.1.cells
        clear hk
        go_wp2
        go_ret
        exact ⟨rfl, HK.out.2.2⟩
end Go.Proofs.Ytnnfgphioapmnaa

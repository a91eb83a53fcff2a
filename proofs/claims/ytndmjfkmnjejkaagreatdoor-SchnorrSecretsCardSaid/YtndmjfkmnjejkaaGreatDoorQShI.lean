/- Walk: hash.Mac for keys of at most 64 bytes. -/
import Derived.Test.YtndmjfkmnjejkaaGreatDoorQShG
import Derived.Deep.Cut
set_option linter.unusedVariables false
set_option linter.unusedSimpArgs false
namespace Go.Proofs.YtndmjfkmnjejkaaGreatDoor
open Go.RowKit Go.Lib
def yc (f : Nat → UInt8) : Array Value := (byteCells ((List.range 64).map f)).toArray
theorem yc_size (f : Nat → UInt8) : (yc f).size = 64 := by simp [yc, byteCells]
theorem yc_get (f : Nat → UInt8) {i : Nat} (h : i < 64) : (yc f)[i]? = some (.int .u8 ((f i).toNat : Int)) := by simp [yc, byteCells, h]
theorem yc_set (f : Nat → UInt8) (i : Nat) (x : UInt8) : (yc f).setIfInBounds i (.int .u8 (x.toNat : Int)) = yc (fun j => if j = i then x else f j) := by
  apply Array.ext_getElem?
  intro j
  rw [Array.getElem?_setIfInBounds]
  rcases Nat.lt_or_ge j 64 with h | h
  · rw [yc_get _ h, yc_get _ h, yc_size]
    by_cases e : i = j
    · subst e; simp [h]
    · rw [if_neg e, if_neg (Ne.symm e)]
  · rw [Array.getElem?_eq_none (by rw [yc_size]; exact h), Array.getElem?_eq_none (by rw [yc_size]; exact h)]
    by_cases e : i = j
    · subst e; simp [yc_size]; omega
    · rw [if_neg e]
def z64b : Array Value := madeCells #[.int .u8 0] 64
theorem yc_zero : yc (fun _ => 0) = z64b := by kernel_rfl
def gd (l : List UInt8) : Nat → UInt8 := fun i => l.getD i 0
theorem yc_copy (l : List UInt8) (h : l.length ≤ 64) : (z64b.toList.take 0 ++ byteCells l ++ z64b.toList.drop (0 + l.length)).toArray = yc (gd l) := by
  unfold gd
  rw [← yc_zero]
  apply Array.ext_getElem?
  intro j
  rw [List.take_zero, List.nil_append, Nat.zero_add, List.getElem?_toArray]
  rcases Nat.lt_or_ge j 64 with hj | hj
  · rw [yc_get _ hj]
    rcases Nat.lt_or_ge j l.length with hl | hl
    · rw [List.getElem?_append_left (by simpa [byteCells] using hl)]
      simp [byteCells, List.getD_eq_getElem?_getD, hl]
    · rw [List.getElem?_append_right (by simpa [byteCells] using hl)]
      have e : l.getD j 0 = 0 := by simp [List.getD_eq_getElem?_getD, List.getElem?_eq_none hl]
      rw [e, List.getElem?_drop, byteCells_length, Nat.add_sub_cancel' hl, Array.getElem?_toList, yc_get _ hj]
  · rw [Array.getElem?_eq_none (by rw [yc_size]; exact hj), List.getElem?_eq_none]
    simp [byteCells, yc_size]; omega
def RowY (w : World) (B : Nat) (f : Nat → UInt8) : Prop := w.heap[B]? = some (.cells (yc f) 239 (0, 0))
theorem RowY.cell {w : World} {B : Nat} {f : Nat → UInt8} (h : RowY w B f) {k : Nat} (hk : k < 64) : w.cell? ⟨B, k, none⟩ = some (.int .u8 ((f k).toNat : Int)) := by
  rw [Lib.cell_of_heap h, yc_get f hk]
theorem RowY.free {w : World} {B : Nat} {f : Nat → UInt8} (h : RowY w B f) (k : Nat) : w.frozen? ⟨B, k, none⟩ = false := Lib.frozen_of_heap h k
theorem RowY.set {w : World} {B : Nat} {f : Nat → UInt8} (h : RowY w B f) (k : Nat) (x : UInt8) : RowY (w.setCell ⟨B, k, none⟩ (.int .u8 (x.toNat : Int))) B (fun j => if j = k then x else f j) := by
  unfold RowY; rw [block_setCell h, yc_set]
theorem RowY.other {w : World} {B C k : Nat} {f : Nat → UInt8} {v : Value} (h : RowY w B f) (hne : B ≠ C) : RowY (w.setCell ⟨C, k, none⟩ v) B f := (heap_setCell_other _ _ _ _ hne).trans h
theorem RowY.lt {w : World} {B : Nat} {f : Nat → UInt8} (h : RowY w B f) : B < w.heap.size := block_lt h
theorem RowY.bytes {w : World} {B : Nat} {f : Nat → UInt8} (h : RowY w B f) : BytesAt w (some ⟨B, 0, none⟩) 64 64 ((List.range 64).map f) := by
  refine ⟨by simp, Nat.le_refl _, by omega, fun _ => ⟨B, 0, rfl, fun k hk => ?_⟩⟩
  rw [Nat.zero_add, h.cell hk]
  simp [byteI, hk]
theorem xor_54_all : ∀ n, n < 256 → bits .xor .u8 ((n : Nat) : Int) 54 = ((UInt8.ofNat n ^^^ 54).toNat : Int) := by decide +kernel
theorem xor_92_all : ∀ n, n < 256 → bits .xor .u8 ((n : Nat) : Int) 92 = ((UInt8.ofNat n ^^^ 92).toNat : Int) := by decide +kernel
theorem xor_54 (x : UInt8) : bits .xor .u8 (x.toNat : Int) 54 = ((x ^^^ 54).toNat : Int) := by
  have := xor_54_all x.toNat x.toNat_lt
  rwa [UInt8.ofNat_toNat] at this
theorem xor_92 (x : UInt8) : bits .xor .u8 (x.toNat : Int) 92 = ((x ^^^ 92).toNat : Int) := by
  have := xor_92_all x.toNat x.toNat_lt
  rwa [UInt8.ofNat_toNat] at this
theorem app_data (a b : ByteArray) : (a ++ b).data.toList = a.data.toList ++ b.data.toList := by simp
theorem RowY.set_off {w : World} {B C k j : Nat} {f : Nat → UInt8} {v u : Value} {g : Nat → UInt8} (h : RowY (w.setCell ⟨B, k, none⟩ v) B g) (h0 : RowY w B f) (hne : B ≠ C) : RowY ((w.setCell ⟨C, j, none⟩ u).setCell ⟨B, k, none⟩ v) B g := by
  have h1 : (w.setCell ⟨C, j, none⟩ u).heap[B]? = w.heap[B]? := heap_setCell_other _ _ _ _ hne
  unfold RowY at h h0 ⊢
  rw [block_setCell (h1.trans h0)]
  rw [block_setCell h0] at h
  exact h
def xk (l : List UInt8) (x : UInt8) (k : Nat) (j : Nat) : UInt8 := if j < k then l.getD j 0 ^^^ x else l.getD j 0
theorem xk_zero (l : List UInt8) (x : UInt8) : xk l x 0 = gd l := by funext j; simp [xk, gd]
theorem xk_step (l : List UInt8) (x : UInt8) (k : Nat) : (fun j => if j = k then xk l x k k ^^^ x else xk l x k j) = xk l x (k + 1) := by
  funext j
  unfold xk
  by_cases e : j = k
  · subst e; simp
  · rw [if_neg e]
    by_cases h : j < k
    · rw [if_pos h, if_pos (by omega)]
    · rw [if_neg h, if_neg (by omega)]
theorem xk_all (l : List UInt8) (x : UInt8) : (List.range 64).map (xk l x 64) = xorL l x := by
  unfold xorL
  apply List.map_congr_left
  intro i hi
  have : i < 64 := by simpa using hi
  simp [xk, this]
theorem copy_run64 (w : World) (g : Nat) (hg : w.heap[g]? = some (.cells z64b 239 (0, 0))) (s : ByteArray) (hs : s.size ≤ 64) (ty : TypeId) :
    (Builtin.copy_ #[125, 9] ty #[.slice (some ⟨g, 0, none⟩) 64 64, .string s]).run Tryz.prog w = .ok (goInt s.size) (w.setRow g (yc (gd s.data.toList))) := by
  rw [← yc_copy s.data.toList (by rw [Array.length_toList]; exact hs)]
  have hl : s.data.toList.length = s.size := Array.length_toList
  rw [hl]
  exact run_copy_row_string _ _ _ _ 5 _ _ _ _ _ _ _ Tryz.underlying125 (by kernel_rfl) hg hs (by unfold z64b; rw [size_madeCells]; show 0 + s.size ≤ 64 * 1; omega)
set_option maxRecDepth 100000 in
set_option maxHeartbeats 2000000 in
theorem h_Mac (key s : ByteArray) (hk : key.size ≤ 64) (hs : s.size ≤ 100000000) (w : World) : Calls Tryz.prog 222 #[.string key, .string s] w (Ret (.string (bstr (macL key.data.toList s.data.toList))) w) := by
  obtain ⟨l, hl⟩ : ∃ l, key.data.toList = l := ⟨_, rfl⟩
  have hll : l.length = key.size := by rw [← hl]; exact Array.length_toList
  have HCR := Lib.hid (fun W g hg ty => copy_run64 W g hg key hk ty)
  have HR := Lib.hid (show macL l s.data.toList = shaL (xorL l 92 ++ shaL (xorL l 54 ++ s.data.toList)) from by unfold macL; rw [if_neg (by omega)])
  rw [hl] at HCR ⊢
  rw [HR.out]
  have HS1 := Lib.hid (h_Sum (bstr (xorL l 54) ++ s) (by rw [ByteArray.size_append, bstr_size]; simp [xorL]; omega))
  have HS2 := Lib.hid (h_Sum (bstr (xorL l 92) ++ bstr (shaL (xorL l 54 ++ s.data.toList))) (by rw [ByteArray.size_append, bstr_size, bstr_size, shaL_length]; simp [xorL]))
  have hlei : decide ((64 : Int) < (key.size : Int)) = false := decide_eq_false (by omega)
  have HSS := Lib.hid hs
  clear hl hll hk hs HR
  go_enter Tryz.func222, Tryz.ntmps222
  obtain ⟨P, hP⟩ : ∃ P, w.heap.size = P := ⟨_, rfl⟩
  obtain ⟨w1, hw1⟩ : ∃ W, w.alloc (.cells z64b 239) = W := ⟨_, rfl⟩
  have hs1 : w1.heap.size = P + 1 := by rw [← hw1, ← hP]; simp
  have hz1 : w1.heap[P]? = some (.cells z64b 239 (0, 0)) := by rw [← hw1, ← hP]; exact heap_alloc_new _ _
  have hb1 : Below P w w1 := by rw [← hw1, ← hP]; exact (Below.refl _ _).alloc (Nat.le_refl _) _
  obtain ⟨w2, hw2⟩ : ∃ W, w1.alloc (.cells z64b 239) = W := ⟨_, rfl⟩
  have hz2 : w2.heap[P + 1]? = some (.cells z64b 239 (0, 0)) := by rw [← hw2, ← hs1]; exact heap_alloc_new _ _
  have hb2 : Below w1.heap.size w1 w2 := by rw [← hw2]; exact (Below.refl _ _).alloc (Nat.le_refl _) _
  have HZ1 := Lib.hid ((hb2.block P (by omega)).trans hz1)
  have HZ2 := Lib.hid hz2
  have HB2 := Lib.hid (hb1.trans (hb2.mono (by omega)))
  go_upto_region 3 with (fail)
  go_step
  refine Great.wpList_allocTo rfl _ rfl (.pointer (some ⟨P, 0, none⟩)) (.cells z64b 239) (by rw [← hP]; kernel_rfl) ?_
  rw [hw1]
  refine Great.wpList_allocTo rfl _ rfl (.pointer (some ⟨P + 1, 0, none⟩)) (.cells z64b 239) (by rw [← hs1]; kernel_rfl) ?_
  rw [hw2]
  have HP := Lib.hid hP
  clear hw1 hw2 hz1 hz2 hb1 hb2 hs1 hP hlei
  simp only [Act.put, sqA, sqB, sqC]
  go_upto_region 5 with (refine wpList_copy_ran _ rfl (.tmp 13) (.tmp 14) 125 9 rfl _ _ rfl rfl (HCR.out _ P HZ1.out _) ?_)
  go_upto_region 6 with (refine wpList_copy_ran _ rfl (.tmp 16) (.tmp 17) 125 9 rfl _ _ rfl rfl (HCR.out _ (P + 1) ((setRow_other _ _ _ _ (by omega)).trans HZ2.out) _) ?_)
  have hr1 : RowY ((w2.setRow P (yc (gd l))).setRow (P + 1) (yc (gd l))) P (xk l 54 0) := by
    rw [xk_zero]; exact (setRow_other _ _ _ _ (by omega)).trans (setRow_heap _ _ _ _ _ _ HZ1.out)
  have hr2 : RowY ((w2.setRow P (yc (gd l))).setRow (P + 1) (yc (gd l))) (P + 1) (xk l 92 0) := by
    rw [xk_zero]; exact setRow_heap _ _ _ _ _ _ ((setRow_other _ _ _ _ (by omega)).trans HZ2.out)
  have hb3 : Below P w ((w2.setRow P (yc (gd l))).setRow (P + 1) (yc (gd l))) := below_setRow (below_setRow HB2.out (Nat.le_refl _) _) (by omega) _
  obtain ⟨w3, hw3⟩ : ∃ W, (w2.setRow P (yc (gd l))).setRow (P + 1) (yc (gd l)) = W := ⟨_, rfl⟩
  rw [hw3] at hr1 hr2 hb3 ⊢
  have HR1 := Lib.hid hr1
  have HR2 := Lib.hid hr2
  have HB3 := Lib.hid hb3
  clear hw3 hr1 hr2 hb3 HCR HZ1 HZ2 HB2
  simp only [Act.put, sqA, sqB, sqC]
  go_wp2
  go_loopw [19] (fun v wr => ∃ k : Nat, k ≤ 64 ∧ v = .int .i64 k ∧ RowY wr P (xk l 54 k) ∧ RowY wr (P + 1) (xk l 92 k) ∧ Below P w wr) (fun v _ => 64 - (RowKit.intOf v).toNat)
  case atStart => exact ⟨0, by omega, rfl, HR1.out, HR2.out, HB3.out⟩
  case round =>
    obtain ⟨k, hk, rfl, hy1, hy2, hb⟩ := hrel
    have HY1 := Lib.hid hy1
    have HY2 := Lib.hid hy2
    have HB := Lib.hid hb
    clear hy1 hy2 hb HR1 HR2 HB3
    by_cases hlt : k < 64
    · have hki : (k : Int) < 64 := by omega
      have HK := Lib.hid hlt
      have d0 := HY1.out.cell hlt
      have d1 := HY2.out.cell hlt
      have f0 := HY1.out.free k
      have f1 := HY2.out.free k
      obtain ⟨x1, hx1⟩ : ∃ x, xk l 54 k k = x := ⟨_, rfl⟩
      obtain ⟨x2, hx2⟩ : ∃ x, xk l 92 k k = x := ⟨_, rfl⟩
      have HX1 := Lib.hid hx1
      have HX2 := Lib.hid hx2
      rw [hx1] at d0
      rw [hx2] at d1
      clear hx1 hx2 hlt hk
      go_wp2
      rw [xor_54 x1, xor_92 x2]
      have h1 := HY1.out.set k (x1 ^^^ 54)
      have h2 := HY2.out.set k (x2 ^^^ 92)
      rw [← HX1.out, xk_step] at h1
      rw [← HX2.out, xk_step] at h2
      refine ⟨⟨k + 1, by have := HK.out; omega, by go_num, ?_, ?_, ?_⟩, ?_⟩
      · rw [← HX1.out]; exact h1.other (by omega)
      · rw [← HX2.out]
        exact RowY.set_off h2 HY2.out (by omega)
      · exact (HB.out.setCell (p := ⟨P, k, none⟩) (Nat.le_refl P) _).setCell (p := ⟨P + 1, k, none⟩) (show P ≤ P + 1 by omega) _
      · have := HK.out; simp [RowKit.intOf]; omega
    · obtain rfl : k = 64 := by omega
      have hki : ¬ (((64 : Nat) : Int) < 64) := by omega
      have HC1 := Lib.hid (show BytesAt wr (some ⟨P, 0, none⟩) 64 64 (xorL l 54) from by rw [← xk_all]; exact HY1.out.bytes)
      have HC2 := Lib.hid (show BytesAt wr (some ⟨P + 1, 0, none⟩) 64 64 (xorL l 92) from by rw [← xk_all]; exact HY2.out.bytes)
      rw [app_data, bstr_data] at HS1
      rw [app_data, bstr_data, bstr_data] at HS2
      obtain ⟨a1, ha1⟩ : ∃ z, bstr (xorL l 54) = z := ⟨_, rfl⟩
      obtain ⟨a2, ha2⟩ : ∃ z, bstr (xorL l 92) = z := ⟨_, rfl⟩
      obtain ⟨m1, hm1⟩ : ∃ z, bstr (shaL (xorL l 54 ++ s.data.toList)) = z := ⟨_, rfl⟩
      obtain ⟨m2, hm2⟩ : ∃ z, bstr (shaL (xorL l 92 ++ shaL (xorL l 54 ++ s.data.toList))) = z := ⟨_, rfl⟩
      have HA1 := Lib.hid ha1
      have HA2 := Lib.hid ha2
      have HM2 := Lib.hid hm2
      rw [ha1, hm1] at HS1
      rw [ha2, hm1, hm2] at HS2
      have hz1 : ¬ (9223372036854775807 < a1.size + s.size) := by rw [← ha1, bstr_size]; have := HSS.out; simp [xorL]; omega
      have hz2 : ¬ (9223372036854775807 < a2.size + m1.size) := by rw [← ha2, ← hm1, bstr_size, bstr_size, shaL_length]; simp [xorL]
      have HLT := Lib.hid HY2.out.lt
      clear ha1 ha2 hm1 hm2 hk hlt
      go_wp2
      obtain ⟨wd, hwd⟩ : ∃ wd, wr.drew = wd := ⟨_, rfl⟩
      have HD1 := Lib.hid (show BytesAt wd (some ⟨P, 0, none⟩) 64 64 (xorL l 54) from hwd ▸ HC1.out)
      have HD2 := Lib.hid (show BytesAt wd (some ⟨P + 1, 0, none⟩) 64 64 (xorL l 92) from hwd ▸ HC2.out)
      have HBD := Lib.hid (show Below P w wd from hwd ▸ HB.out.drew)
      have HPD := Lib.hid (show P + 1 < wd.heap.size from hwd ▸ HLT.out)
      clear HC1 HC2
      refine wp_region_K 10 (Below (wd).heap.size (wd)) (by kernel_rfl) ?_
      intro hD
      rw [hwd]
      refine wpAnyK_pureD (i := 0) (d := some 33) (v := ?v12_0b1) (fuel := 9) rfl (by kernel_rfl) (by kernel_rfl) (fun _ _ _ h => h) hD (Below.refl _ _) (.inl ⟨by kernel_rfl, ?y12_0b1⟩) ?n12_0b1
      case y12_0b1 => intro w' _; go_simp; with_reducible rfl
      clear hD; intro hD
      simp only [Act.put, sqA, sqB, sqC]
      refine wpAnyK_takeSD (i := 1) (d := some 34) (v := (.string a2)) (fuel := 8) rfl (by kernel_rfl) (by kernel_rfl) (by kernel_rfl) (fun _ _ _ h => h) hD (Below.refl _ _) (.inl ⟨by kernel_rfl, ?y12_1b1⟩) ?n12_1b1
      case y12_1b1 =>
        intro w' hS'
        have hcv := ((HD2.out.keptB hS' HPD.out).conv 125 9 5 Tryz.underlying125 Tryz.underlying5 Tryz.underlying9)
        rw [HA2.out] at hcv
        go_simp
      clear hD; intro hD
      simp only [Act.put, sqA, sqB, sqC]
      refine wpAnyK_pureD (i := 2) (d := some 35) (v := ?v12_2b1) (fuel := 7) rfl (by kernel_rfl) (by kernel_rfl) (fun _ _ _ h => h) hD (Below.refl _ _) (.inl ⟨by kernel_rfl, ?y12_2b1⟩) ?n12_2b1
      case y12_2b1 => intro w' _; go_simp; with_reducible rfl
      clear hD; intro hD
      simp only [Act.put, sqA, sqB, sqC]
      refine wpAnyK_takeSD (i := 3) (d := some 36) (v := (.string a1)) (fuel := 6) rfl (by kernel_rfl) (by kernel_rfl) (by kernel_rfl) (fun _ _ _ h => h) hD (Below.refl _ _) (.inl ⟨by kernel_rfl, ?y12_3b1⟩) ?n12_3b1
      case y12_3b1 =>
        intro w' hS'
        have hcv := ((HD1.out.keptB hS' (by have := HPD.out; omega)).conv 125 9 5 Tryz.underlying125 Tryz.underlying5 Tryz.underlying9)
        rw [HA1.out] at hcv
        go_simp
      clear hD; intro hD
      simp only [Act.put, sqA, sqB, sqC]
      refine wpAnyK_pureD (i := 4) (d := some 37) (v := ?v12_4b1) (fuel := 5) rfl (by kernel_rfl) (by kernel_rfl) (fun _ _ _ h => h) hD (Below.refl _ _) (.inl ⟨by kernel_rfl, ?y12_4b1⟩) ?n12_4b1
      case y12_4b1 => intro w' _; go_simp; with_reducible rfl
      clear hD; intro hD
      simp only [Act.put, sqA, sqB, sqC]
      refine wpAnyK_pureD (i := 5) (d := some 38) (v := ?v12_5b1) (fuel := 4) rfl (by kernel_rfl) (by kernel_rfl) (fun _ _ _ h => h) hD (Below.refl _ _) (.inl ⟨by kernel_rfl, ?y12_5b1⟩) ?n12_5b1
      case y12_5b1 => intro w' _; go_simp; with_reducible rfl
      clear hD; intro hD
      simp only [Act.put, sqA, sqB, sqC]
      refine wpAnyK_one (i := 6) (fuel := 3) (by kernel_rfl) rfl hD ?_
      clear hD; intro K6 hK6
      go_wp2_with fail
      refine (HS1.out _).mono ?_
      rintro ev w4 ⟨rfl, hb⟩
      have HB6 := Lib.hid hb
      clear hb
      go_wp2
      refine hK6 _ _ (by exact HB6.out) ?_; clear hK6; intro hS_12_6 hD
      refine wpAnyK_pureD (i := 7) (d := some 40) (v := ?v12_7b1) (fuel := 2) rfl (by kernel_rfl) (by kernel_rfl) (fun _ _ _ h => h) hD hS_12_6 (.inl ⟨by kernel_rfl, ?y12_7b1⟩) ?n12_7b1
      case y12_7b1 => intro w' _; go_simp; with_reducible rfl
      clear hD; intro hD
      simp only [Act.put, sqA, sqB, sqC]
      refine wpAnyK_one (i := 8) (fuel := 1) (by kernel_rfl) rfl hD ?_
      clear hD; intro K8 hK8
      go_wp2_with fail
      refine (HS2.out _).mono ?_
      rintro ev w5 ⟨rfl, hb⟩
      have HB8 := Lib.hid hb
      clear hb
      go_wp2
      refine hK8 _ _ (by exact Below.trans hS_12_6 (Below.mono HB8.out (Below.size hS_12_6))) ?_; clear hK8; intro hS_12_8 hD
      refine wpAnyK_one (i := 9) (fuel := 0) (by kernel_rfl) rfl hD ?_
      clear hD; intro K9 hK9
      go_wp2
      refine hK9 _ _ (by exact hS_12_8) ?_; clear hK9; intro hS_12_9 hD
      have HL := Lib.hid hS_12_9
      refine wpAnyK_done (by kernel_rfl) ?_ 0
      clear hD
      go_wp2
      go_ret
      exact ⟨by show Ending.returned (.string m2) = _; rw [HM2.out], by rw [HP.out]; exact HBD.out.trans (HL.out.mono (by have := HPD.out; omega))⟩
end Go.Proofs.YtndmjfkmnjejkaaGreatDoor
/- Walk: the reference's schedule. -/
set_option linter.unusedVariables false
set_option linter.unusedSimpArgs false
namespace Go.Proofs.YtndmjfkmnjejkaaGreatDoor
open Go.RowKit Go.Lib
theorem word_info : (Tryz.prog.info? 216).map (fun i => (i.zero, i.size, i.bytes)) = some (some (.int .u32 0), 1, 4) := by kernel_rfl
theorem make_words (n : Nat) (hn : n ≤ 1000000) (w : World) : (Instr.makeSlice 173 (.int .i64 n) (.int .i64 n)).run Tryz.prog w = .ok (.slice (some ⟨w.heap.size, 0, none⟩) n n) (w.alloc (.cells (madeCells #[.int .u32 0] n) 216)) := by
  obtain ⟨i0, hi, hz0, hz1, hz2⟩ := info_parts word_info
  have h := run_make (P := Tryz.prog) w 173 216 i0 (.int .u32 0) Tryz.underlying173 hi hz0 .i64 .i64 (n : Int) (n : Int) (by omega) (Int.le_refl _) (by rw [hz2]; omega) (by omega)
  rw [h, hz1, Int.toNat_natCast, Nat.mul_one]
  rfl
theorem index_byte_run {op : Oper} {ρ : Operand → Value} {w : World} (x i : Operand) (ho : op.op = .index 9 x i) (s : ByteArray) (p : Nat) (hx : ρ x = .string s) (hi : ρ i = .int .i64 (p : Int)) (hp : p < s.size) {v : Nat} (hv : (s.data.toList.getD p 0).toNat = v) :
    (execOp ρ op).run Tryz.prog w = .ok (.value (.int .u8 (v : Int))) w := by
  subst hv
  have h1 : s[p]? = some s[p] := by simp [hp]
  have h2 : s.data.toList.getD p 0 = s[p] := data_getD s p hp
  rw [h2]
  unfold execOp
  simp [ho, hx, hi, Instr.index, asIntOf, run_underlying Tryz.underlying9, h1, Result.andThen]
theorem sched_val2 (X16 X15 X7 X2 : BitVec 32) : (((wi X16 + bits .xor .u32 (bits .xor .u32 (wi (rr X15 7)) (wi (rr X15 18))) (wi X15 / 8)) % 4294967296 + wi X7) % 4294967296 + bits .xor .u32 (bits .xor .u32 (wi (rr X2 17)) (wi (rr X2 19))) (wi X2 / 1024)) % 4294967296 = wi (X16 + sg0 X15 + X7 + sg1 X2) := by
  rw [show (8 : Int) = 2 ^ 3 from rfl, show (1024 : Int) = 2 ^ 10 from rfl, wi_div, wi_div, wi_xor, wi_xor, wi_xor, wi_xor, mod_val, mod_val, mod_val]
  rfl
def pb (m : List UInt8) (i : Nat) : Nat → Nat
  | 0 => 0
  | q + 1 => pb m i q * 256 + (m.getD (4 * i + q) 0).toNat
theorem pb_four (m : List UInt8) (i : Nat) : BitVec.ofNat 32 (pb m i 4) = wd m i := by simp [pb, wd]
theorem step_val (p b : Nat) : (wi (BitVec.ofNat 32 p) * 256 % 4294967296 + (b : Int)) % 4294967296 = wi (BitVec.ofNat 32 (p * 256 + b)) := by
  unfold wi
  rw [BitVec.toNat_ofNat, BitVec.toNat_ofNat]
  omega
def wq (m : List UInt8) (i q : Nat) (j : Nat) : BitVec 32 := if j = i then BitVec.ofNat 32 (pb m i q) else wz m i j
theorem wq_zero (m : List UInt8) (i : Nat) : wq m i 0 = wz m i := by
  funext j
  unfold wq wz
  by_cases h : j = i
  · subst h; rw [if_pos rfl, if_neg (Nat.lt_irrefl _)]; rfl
  · rw [if_neg h]
theorem wq_four (m : List UInt8) (i : Nat) (h : i < 16) : wq m i 4 = wz m (i + 1) := by
  funext j
  unfold wq wz
  by_cases e : j = i
  · subst e; rw [if_pos rfl, if_pos (Nat.lt_succ_self _), pb_four, wv_low m h]
  · rw [if_neg e]
    by_cases h2 : j < i
    · rw [if_pos h2, if_pos (by omega)]
    · rw [if_neg h2, if_neg (by omega)]
set_option maxRecDepth 100000 in
set_option maxHeartbeats 2000000 in
theorem r05_schedule (s : ByteArray) (hs : s.size = 64) (w : World) : Calls Tryz.prog 239 #[.string s] w fun e w' => e = .returned (.slice (some ⟨w.heap.size, 0, none⟩) 64 64) ∧ RowW w' w.heap.size 64 216 (wv s.data.toList) ∧ Below w.heap.size w w' := by
  obtain ⟨m, hm⟩ : ∃ m, s.data.toList = m := ⟨_, rfl⟩
  have HM := Lib.hid hm
  rw [hm]
  clear hm
  have hmk : (Instr.makeSlice 173 (.int .i64 64) (.int .i64 64)).run Tryz.prog w = .ok (.slice (some ⟨w.heap.size, 0, none⟩) 64 64) (w.alloc (.cells (madeCells #[.int .u32 0] 64) 216)) := make_words 64 (by decide) w
  obtain ⟨w1, hw1⟩ : ∃ w1, w.alloc (.cells (madeCells #[.int .u32 0] 64) 216) = w1 := ⟨_, rfl⟩
  have HR1 := Lib.hid (show RowW w1 w.heap.size 64 216 (wz m 0) from by
    rw [show wz m 0 = fun _ => 0 from funext fun j => rfl]; unfold RowW; rw [wa_zero, ← hw1]; exact heap_alloc_new _ _)
  have HB1 := Lib.hid (show Below w.heap.size w w1 from hw1 ▸ (Below.refl _ _).alloc (Nat.le_refl _) _)
  rw [hw1] at hmk
  clear hw1
  obtain ⟨H, hH⟩ : ∃ H, w.heap.size = H := ⟨_, rfl⟩
  rw [hH] at HR1 HB1 hmk ⊢
  go_enter Tryz.func239, Tryz.ntmps239
  go_wp2
  clear hmk
  go_loopw [4] (fun i wr => ∃ k : Nat, k ≤ 16 ∧ i = .int .i64 k ∧ RowW wr H 64 216 (wz m k) ∧ Below H w wr) (fun i _ => 16 - (RowKit.intOf i).toNat)
  case atStart => exact ⟨0, Nat.zero_le _, rfl, HR1.out, HB1.out⟩
  case round =>
    obtain ⟨k, hk, rfl, hR, hBR⟩ := hrel
    have HR := Lib.hid hR
    have HB := Lib.hid hBR
    clear hR hBR
    by_cases hlt : k < 16
    · have hlti : (k : Int) < 16 := by omega
      have hk64 : (k : Int) < 64 := by omega
      go_wp2
      go_loopw [5] (fun i wr => ∃ q : Nat, q ≤ 4 ∧ i = .int .i64 q ∧ RowW wr H 64 216 (wq m k q) ∧ Below H w wr) (fun i _ => 4 - (RowKit.intOf i).toNat)
      case atStart => exact ⟨0, Nat.zero_le _, rfl, by rw [wq_zero]; exact HR.out, HB.out⟩
      case round =>
        obtain ⟨q, hq, rfl, hR, hBR⟩ := hrel
        have HR := Lib.hid hR
        have HB := Lib.hid hBR
        clear hR hBR
        by_cases hq4 : q < 4
        · have hq4i : (q : Int) < 4 := by omega
          have c0 := HR.out.drew.cell (show k < 64 by omega)
          have hf := HR.out.drew.free k
          rw [show wq m k q k = BitVec.ofNat 32 (pb m k q) from by unfold wq; rw [if_pos rfl]] at c0
          obtain ⟨y, hy⟩ : ∃ y, BitVec.ofNat 32 (pb m k q) = y := ⟨_, rfl⟩
          rw [hy] at c0
          have HY := Lib.hid hy
          clear hy
          obtain ⟨p, hp⟩ : ∃ p, 4 * k + q = p := ⟨_, rfl⟩
          have hpi : 4 * (k : Int) + (q : Int) = (p : Int) := by omega
          have hp64 : (p : Int) < 64 := by omega
          have hwa : IntKind.i64.wrap (4 * (k : Int)) = 4 * (k : Int) := by rw [IntKind.wrap_i64]; omega
          have hwb : IntKind.i64.wrap (p : Int) = (p : Int) := by rw [IntKind.wrap_i64]; omega
          have HPS := Lib.hid (show p < s.size from by omega)
          obtain ⟨x, hx⟩ : ∃ x, (m.getD p 0).toNat = x := ⟨_, rfl⟩
          have hx255 : x ≤ 255 := by rw [← hx]; have := (m.getD p 0).toNat_lt; omega
          have HXX := Lib.hid hx
          have HP := Lib.hid hp
          clear hx hp
          obtain ⟨wd, hwd⟩ : ∃ wd, wr.drew = wd := ⟨_, rfl⟩
          rw [hwd] at c0 hf
          go_wp2
          refine wp_region_K 16 (Eq wd) (by kernel_rfl) ?_
          intro hD
          rw [hwd]
          refine wpAnyK_pureD (i := 0) (d := some 20) (v := ?v8_0b1) (fuel := 16) rfl (by kernel_rfl) (by kernel_rfl) (fun _ _ _ h => h) hD rfl (.inl ⟨by kernel_rfl, ?y8_0b1⟩) ?n8_0b1
          case y8_0b1 => intro w' _; go_simp; with_reducible rfl
          clear hD; intro hD
          simp only [Act.put, sqA, sqB, sqC]
          refine wpAnyK_pureD (i := 1) (d := some 21) (v := ?v8_1b1) (fuel := 15) rfl (by kernel_rfl) (by kernel_rfl) (fun _ _ _ h => h) hD rfl (.inl ⟨by kernel_rfl, ?y8_1b1⟩) ?n8_1b1
          case y8_1b1 => intro w' _; go_simp; with_reducible rfl
          clear hD; intro hD
          simp only [Act.put, sqA, sqB, sqC]
          refine wpAnyK_pureD (i := 2) (d := some 22) (v := ?v8_2b1) (fuel := 14) rfl (by kernel_rfl) (by kernel_rfl) (fun _ _ _ h => h) hD rfl (.inl ⟨by kernel_rfl, ?y8_2b1⟩) ?n8_2b1
          case y8_2b1 => intro w' _; go_simp; with_reducible rfl
          clear hD; intro hD
          simp only [Act.put, sqA, sqB, sqC]
          refine wpAnyK_pureD (i := 3) (d := some 23) (v := ?v8_3b1) (fuel := 13) rfl (by kernel_rfl) (by kernel_rfl) (fun _ _ _ h => h) hD rfl (.inl ⟨by kernel_rfl, ?y8_3b1⟩) ?n8_3b1
          case y8_3b1 => intro w' _; go_simp; with_reducible rfl
          clear hD; intro hD
          simp only [Act.put, sqA, sqB, sqC]
          refine wpAnyK_pureD (i := 4) (d := some 24) (v := ?v8_4b1) (fuel := 12) rfl (by kernel_rfl) (by kernel_rfl) (fun _ _ _ h => h) hD rfl (.inl ⟨by kernel_rfl, ?y8_4b1⟩) ?n8_4b1
          case y8_4b1 => intro w' _; go_simp; with_reducible rfl
          clear hD; intro hD
          simp only [Act.put, sqA, sqB, sqC]
          refine wpAnyK_takeD (i := 5) (d := some 25) (v := ?v8_5b1) (fuel := 11) rfl (by kernel_rfl) (by kernel_rfl) (by kernel_rfl) (fun _ _ _ h => h) hD rfl (.inl ⟨by kernel_rfl, ?y8_5b1⟩) ?n8_5b1
          case y8_5b1 => intro w' hS'; have e0 := (hS' ▸ c0); go_simp; with_reducible rfl
          clear hD; intro hD
          simp only [Act.put, sqA, sqB, sqC]
          refine wpAnyK_pureD (i := 6) (d := some 26) (v := ?v8_6b1) (fuel := 10) rfl (by kernel_rfl) (by kernel_rfl) (fun _ _ _ h => h) hD rfl (.inl ⟨by kernel_rfl, ?y8_6b1⟩) ?n8_6b1
          case y8_6b1 => intro w' _; go_simp; with_reducible rfl
          clear hD; intro hD
          simp only [Act.put, sqA, sqB, sqC]
          refine wpAnyK_pureD (i := 7) (d := some 27) (v := ?v8_7b1) (fuel := 9) rfl (by kernel_rfl) (by kernel_rfl) (fun _ _ _ h => h) hD rfl (.inl ⟨by kernel_rfl, ?y8_7b1⟩) ?n8_7b1
          case y8_7b1 => intro w' _; go_simp; with_reducible rfl
          clear hD; intro hD
          simp only [Act.put, sqA, sqB, sqC]
          refine wpAnyK_pureD (i := 8) (d := some 28) (v := ?v8_8b1) (fuel := 8) rfl (by kernel_rfl) (by kernel_rfl) (fun _ _ _ h => h) hD rfl (.inl ⟨by kernel_rfl, ?y8_8b1⟩) ?n8_8b1
          case y8_8b1 => intro w' _; go_simp; with_reducible rfl
          clear hD; intro hD
          simp only [Act.put, sqA, sqB, sqC]
          refine wpAnyK_pureD (i := 9) (d := some 29) (v := ?v8_9b1) (fuel := 7) rfl (by kernel_rfl) (by kernel_rfl) (fun _ _ _ h => h) hD rfl (.inl ⟨by kernel_rfl, ?y8_9b1⟩) ?n8_9b1
          case y8_9b1 => intro w' _; go_simp; with_reducible rfl
          clear hD; intro hD
          simp only [Act.put, sqA, sqB, sqC]
          refine wpAnyK_pureD (i := 10) (d := some 30) (v := ?v8_10b1) (fuel := 6) rfl (by kernel_rfl) (by kernel_rfl) (fun _ _ _ h => h) hD rfl (.inl ⟨by kernel_rfl, ?y8_10b1⟩) ?n8_10b1
          case y8_10b1 => intro w' _; go_simp; with_reducible rfl
          clear hD; intro hD
          simp only [Act.put, sqA, sqB, sqC]
          refine wpAnyK_pureD (i := 11) (d := some 31) (v := ?v8_11b1) (fuel := 5) rfl (by kernel_rfl) (by kernel_rfl) (fun _ _ _ h => h) hD rfl (.inl ⟨by kernel_rfl, ?y8_11b1⟩) ?n8_11b1
          case y8_11b1 => intro w' _; go_simp; with_reducible rfl
          clear hD; intro hD
          simp only [Act.put, sqA, sqB, sqC]
          refine wpAnyK_takeD (i := 12) (d := some 32) (v := (.int .u8 (x : Int))) (fuel := 4) rfl (by kernel_rfl) (by kernel_rfl) (by kernel_rfl) (fun _ _ _ h => h) hD rfl (.inl ⟨by kernel_rfl, ?y8_12b1⟩) ?n8_12b1
          case y8_12b1 =>
            intro w' hS'
            exact index_byte_run (.tmp 27) (.tmp 31) rfl s p rfl rfl HPS.out (by rw [HM.out]; exact HXX.out)
          clear hD; intro hD
          simp only [Act.put, sqA, sqB, sqC]
          refine wpAnyK_pureD (i := 13) (d := some 33) (v := ?v8_13b1) (fuel := 3) rfl (by kernel_rfl) (by kernel_rfl) (fun _ _ _ h => h) hD rfl (.inl ⟨by kernel_rfl, ?y8_13b1⟩) ?n8_13b1
          case y8_13b1 => intro w' _; go_simp; with_reducible rfl
          clear hD; intro hD
          simp only [Act.put, sqA, sqB, sqC]
          refine wpAnyK_pureD (i := 14) (d := some 34) (v := ?v8_14b1) (fuel := 2) rfl (by kernel_rfl) (by kernel_rfl) (fun _ _ _ h => h) hD rfl (.inl ⟨by kernel_rfl, ?y8_14b1⟩) ?n8_14b1
          case y8_14b1 => intro w' _; go_simp; with_reducible rfl
          clear hD; intro hD
          simp only [Act.put, sqA, sqB, sqC]
          refine wpAnyK_pureD (i := 15) (d := some 35) (v := ?v8_15b1) (fuel := 1) rfl (by kernel_rfl) (by kernel_rfl) (fun _ _ _ h => h) hD rfl (.inl ⟨by kernel_rfl, ?y8_15b1⟩) ?n8_15b1
          case y8_15b1 => intro w' _; go_simp; with_reducible rfl
          clear hD; intro hD
          simp only [Act.put, sqA, sqB, sqC]
          refine wpAnyK_oneT (i := 16) (fuel := 0) (by kernel_rfl) rfl hD (by kernel_rfl) ?_
          clear hD; intro K16 hK16
          go_wp2
          refine hK16 _ _ ?_; clear hK16; intro hD
          refine wpAnyK_done (by kernel_rfl) ?_ 0
          clear hD
          rw [← HY.out, step_val]
          obtain ⟨V, hV⟩ : ∃ V, BitVec.ofNat 32 (pb m k q * 256 + x) = V := ⟨_, rfl⟩
          have HV := Lib.hid hV
          rw [hV, HY.out]
          clear hV
          go_wp2
          go_roundw
          case rel =>
            refine ⟨q + 1, by omega, by go_num, ?_, ?_⟩
            · rw [← hwd]
              refine (HR.out.drew.set k V).congr fun j hj => ?_
              unfold wq
              by_cases e : j = k
              · rw [if_pos e, if_pos e, ← HV.out, ← HXX.out, ← HP.out]; rfl
              · rw [if_neg e, if_neg e, if_neg e]
            · rw [← hwd]; exact HB.out.drew.setCell (Nat.le_refl _) _
          case measure => simp [RowKit.intOf]; omega
        · have HQ := Lib.hid (show q = 4 from by omega)
          have hq4i : ¬ ((q : Int) < 4) := by omega
          have HR2 := Lib.hid (show RowW wr H 64 216 (wz m (k + 1)) from by rw [← wq_four m k hlt, ← HQ.out]; exact HR.out)
          clear hq hq4 HQ HR
          go_wp2
          go_roundw
          case rel => exact ⟨k + 1, by omega, by go_num, HR2.out, HB.out⟩
          case measure => simp [RowKit.intOf]; omega
    · have HK := Lib.hid (show k = 16 from by omega)
      have hge : ¬ ((k : Int) < 16) := by omega
      have HR2 := Lib.hid (show RowW wr H 64 216 (wz m 16) from by rw [← HK.out]; exact HR.out)
      clear hk hlt HK HR
      go_wp2
      go_loopw [6] (fun i wr => ∃ k : Nat, 16 ≤ k ∧ k ≤ 64 ∧ i = .int .i64 k ∧ RowW wr H 64 216 (wz m k) ∧ Below H w wr) (fun i _ => 64 - (RowKit.intOf i).toNat)
      case atStart => exact ⟨16, Nat.le_refl _, by omega, rfl, HR2.out, HB.out⟩
      case round =>
        obtain ⟨k, hk0, hk, rfl, hR, hBR⟩ := hrel
        have HR := Lib.hid hR
        have HB := Lib.hid hBR
        clear hR hBR
        by_cases hlt : k < 64
        · have hlti : (k : Int) < 64 := by omega
          obtain ⟨q15, hq15⟩ : ∃ q, k - 15 = q := ⟨_, rfl⟩
          obtain ⟨q2, hq2⟩ : ∃ q, k - 2 = q := ⟨_, rfl⟩
          obtain ⟨q16, hq16⟩ : ∃ q, k - 16 = q := ⟨_, rfl⟩
          obtain ⟨q7, hq7⟩ : ∃ q, k - 7 = q := ⟨_, rfl⟩
          have i15 : (k : Int) - 15 = (q15 : Int) := by omega
          have i2 : (k : Int) - 2 = (q2 : Int) := by omega
          have i16 : (k : Int) - 16 = (q16 : Int) := by omega
          have i7 : (k : Int) - 7 = (q7 : Int) := by omega
          have l15 : (q15 : Int) < 64 := by omega
          have l2 : (q2 : Int) < 64 := by omega
          have l16 : (q16 : Int) < 64 := by omega
          have l7 : (q7 : Int) < 64 := by omega
          have v15 : IntKind.i64.wrap (q15 : Int) = (q15 : Int) := by rw [IntKind.wrap_i64]; omega
          have v2 : IntKind.i64.wrap (q2 : Int) = (q2 : Int) := by rw [IntKind.wrap_i64]; omega
          have v16 : IntKind.i64.wrap (q16 : Int) = (q16 : Int) := by rw [IntKind.wrap_i64]; omega
          have v7 : IntKind.i64.wrap (q7 : Int) = (q7 : Int) := by rw [IntKind.wrap_i64]; omega
          have HV := Lib.hid (show wv m k = wz m k q16 + sg0 (wz m k q15) + wz m k q7 + sg1 (wz m k q2) from by
            unfold wz; rw [if_pos (by omega), if_pos (by omega), if_pos (by omega), if_pos (by omega), wv_high m hk0, hq15, hq2, hq16, hq7])
          have c15 := HR.out.drew.cell (show q15 < 64 by omega)
          have c2 := HR.out.drew.cell (show q2 < 64 by omega)
          have L16 := Lib.hid (show q16 < 64 from by omega)
          have L7 := Lib.hid (show q7 < 64 from by omega)
          obtain ⟨X15, hX15⟩ : ∃ X, wz m k q15 = X := ⟨_, rfl⟩
          obtain ⟨X2, hX2⟩ : ∃ X, wz m k q2 = X := ⟨_, rfl⟩
          obtain ⟨X16, hX16⟩ : ∃ X, wz m k q16 = X := ⟨_, rfl⟩
          obtain ⟨X7, hX7⟩ : ∃ X, wz m k q7 = X := ⟨_, rfl⟩
          rw [hX15, hX2, hX16, hX7] at HV
          rw [hX15] at c15
          rw [hX2] at c2
          have HX16 := Lib.hid hX16
          have HX7 := Lib.hid hX7
          clear hX15 hX2 hX16 hX7 hq15 hq2 hq16 hq7
          obtain ⟨wd, hwd⟩ : ∃ wd, wr.drew = wd := ⟨_, rfl⟩
          have HRD := Lib.hid (show RowW wd H 64 216 (wz m k) from by rw [← hwd]; exact HR.out.drew)
          have HBD := Lib.hid (show Below H w wd from by rw [← hwd]; exact HB.out.drew)
          rw [hwd] at c15 c2
          go_wp2
          refine wp_region_K 12 (Eq wd) (by kernel_rfl) ?_
          intro hD
          rw [hwd]
          refine wpAnyK_pureD (i := 0) (d := some 40) (v := ?v12_0b2) (fuel := 11) rfl (by kernel_rfl) (by kernel_rfl) (fun _ _ _ h => h) hD rfl (.inl ⟨by kernel_rfl, ?y12_0b2⟩) ?n12_0b2
          case y12_0b2 => intro w' _; go_simp; with_reducible rfl
          clear hD; intro hD
          simp only [Act.put, sqA, sqB, sqC]
          refine wpAnyK_pureD (i := 1) (d := some 41) (v := ?v12_1b2) (fuel := 10) rfl (by kernel_rfl) (by kernel_rfl) (fun _ _ _ h => h) hD rfl (.inl ⟨by kernel_rfl, ?y12_1b2⟩) ?n12_1b2
          case y12_1b2 => intro w' _; go_simp; with_reducible rfl
          clear hD; intro hD
          simp only [Act.put, sqA, sqB, sqC]
          refine wpAnyK_pureD (i := 2) (d := some 42) (v := ?v12_2b2) (fuel := 9) rfl (by kernel_rfl) (by kernel_rfl) (fun _ _ _ h => h) hD rfl (.inl ⟨by kernel_rfl, ?y12_2b2⟩) ?n12_2b2
          case y12_2b2 => intro w' _; go_simp; with_reducible rfl
          clear hD; intro hD
          simp only [Act.put, sqA, sqB, sqC]
          refine wpAnyK_pureD (i := 3) (d := some 43) (v := ?v12_3b2) (fuel := 8) rfl (by kernel_rfl) (by kernel_rfl) (fun _ _ _ h => h) hD rfl (.inl ⟨by kernel_rfl, ?y12_3b2⟩) ?n12_3b2
          case y12_3b2 => intro w' _; go_simp; with_reducible rfl
          clear hD; intro hD
          simp only [Act.put, sqA, sqB, sqC]
          refine wpAnyK_takeSD (i := 4) (d := some 44) (v := ?v12_4b2) (fuel := 7) rfl (by kernel_rfl) (by kernel_rfl) (by kernel_rfl) (fun _ _ _ h => h) hD rfl (.inl ⟨by kernel_rfl, ?y12_4b2⟩) ?n12_4b2
          case y12_4b2 => intro w' hS'; have e0 := (hS' ▸ c15); have e1 := (hS' ▸ c2); go_simp; with_reducible rfl
          clear hD; intro hD
          simp only [Act.put, sqA, sqB, sqC]
          refine wpAnyK_pureD (i := 5) (d := some 45) (v := ?v12_5b2) (fuel := 6) rfl (by kernel_rfl) (by kernel_rfl) (fun _ _ _ h => h) hD rfl (.inl ⟨by kernel_rfl, ?y12_5b2⟩) ?n12_5b2
          case y12_5b2 => intro w' _; go_simp; with_reducible rfl
          clear hD; intro hD
          simp only [Act.put, sqA, sqB, sqC]
          refine wpAnyK_pureD (i := 6) (d := some 46) (v := ?v12_6b2) (fuel := 5) rfl (by kernel_rfl) (by kernel_rfl) (fun _ _ _ h => h) hD rfl (.inl ⟨by kernel_rfl, ?y12_6b2⟩) ?n12_6b2
          case y12_6b2 => intro w' _; go_simp; with_reducible rfl
          clear hD; intro hD
          simp only [Act.put, sqA, sqB, sqC]
          refine wpAnyK_pureD (i := 7) (d := some 47) (v := ?v12_7b2) (fuel := 4) rfl (by kernel_rfl) (by kernel_rfl) (fun _ _ _ h => h) hD rfl (.inl ⟨by kernel_rfl, ?y12_7b2⟩) ?n12_7b2
          case y12_7b2 => intro w' _; go_simp; with_reducible rfl
          clear hD; intro hD
          simp only [Act.put, sqA, sqB, sqC]
          refine wpAnyK_pureD (i := 8) (d := some 48) (v := ?v12_8b2) (fuel := 3) rfl (by kernel_rfl) (by kernel_rfl) (fun _ _ _ h => h) hD rfl (.inl ⟨by kernel_rfl, ?y12_8b2⟩) ?n12_8b2
          case y12_8b2 => intro w' _; go_simp; with_reducible rfl
          clear hD; intro hD
          simp only [Act.put, sqA, sqB, sqC]
          refine wpAnyK_takeSD (i := 9) (d := some 49) (v := ?v12_9b2) (fuel := 2) rfl (by kernel_rfl) (by kernel_rfl) (by kernel_rfl) (fun _ _ _ h => h) hD rfl (.inl ⟨by kernel_rfl, ?y12_9b2⟩) ?n12_9b2
          case y12_9b2 => intro w' hS'; have e0 := (hS' ▸ c15); have e1 := (hS' ▸ c2); go_simp; with_reducible rfl
          clear hD; intro hD
          simp only [Act.put, sqA, sqB, sqC]
          refine wpAnyK_one (i := 10) (fuel := 1) (by kernel_rfl) rfl hD ?_
          clear hD; intro K10 hK10
          go_wp2
          refine hK10 _ _ (by rfl) ?_; clear hK10; intro hS_12_10 hD
          refine wpAnyK_one (i := 11) (fuel := 0) (by kernel_rfl) rfl hD ?_
          clear hD; intro K11 hK11
          go_wp2
          refine hK11 _ _ (by rfl) ?_; clear hK11; intro hS_12_11 hD
          refine wpAnyK_done (by kernel_rfl) ?_ 0
          clear hD
          clear c15 c2 hwd
          go_wp2_with fail
          refine (r05_right X15 7 (by decide) (by decide) _).mono ?_
          rintro e' w1 ⟨rfl, hb1⟩
          go_wp2_with fail
          refine (r05_right X15 18 (by decide) (by decide) _).mono ?_
          rintro e' w2 ⟨rfl, hb2⟩
          go_wp2_with fail
          refine (r05_right X2 17 (by decide) (by decide) _).mono ?_
          rintro e' w3 ⟨rfl, hb3⟩
          go_wp2_with fail
          refine (r05_right X2 19 (by decide) (by decide) _).mono ?_
          rintro e' w4 ⟨rfl, hb4⟩
          have HB4 := Lib.hid (show Below wd.heap.size wd w4 from ((hb1.trans (hb2.mono hb1.size)).trans (hb3.mono (by have := hb1.size; have := hb2.size; omega))).trans (hb4.mono (by have := hb1.size; have := hb2.size; have := hb3.size; omega)))
          clear hb1 hb2 hb3 hb4
          have HR4 := Lib.hid (HRD.out.kept HB4.out HRD.out.lt)
          have HBB := Lib.hid (HBD.out.trans (HB4.out.mono (by have := HRD.out.lt; omega)))
          have c16 := HR4.out.drew.cell L16.out
          have c7 := HR4.out.drew.cell L7.out
          have hf := HR4.out.drew.free k
          have hcw := HR4.out.drew.cell (show k < 64 by omega)
          rw [HX16.out] at c16
          rw [HX7.out] at c7
          obtain ⟨we, hwe⟩ : ∃ we, w4.drew = we := ⟨_, rfl⟩
          rw [hwe] at c16 c7 hf hcw
          go_wp2
          refine wp_region_K 18 (Eq we) (by kernel_rfl) ?_
          intro hD
          rw [hwe]
          refine wpAnyK_pureD (i := 0) (d := some 66) (v := ?v15_0b3) (fuel := 18) rfl (by kernel_rfl) (by kernel_rfl) (fun _ _ _ h => h) hD rfl (.inl ⟨by kernel_rfl, ?y15_0b3⟩) ?n15_0b3
          case y15_0b3 => intro w' _; go_simp; with_reducible rfl
          clear hD; intro hD
          simp only [Act.put, sqA, sqB, sqC]
          refine wpAnyK_pureD (i := 1) (d := some 67) (v := ?v15_1b3) (fuel := 17) rfl (by kernel_rfl) (by kernel_rfl) (fun _ _ _ h => h) hD rfl (.inl ⟨by kernel_rfl, ?y15_1b3⟩) ?n15_1b3
          case y15_1b3 => intro w' _; go_simp; with_reducible rfl
          clear hD; intro hD
          simp only [Act.put, sqA, sqB, sqC]
          refine wpAnyK_pureD (i := 2) (d := some 68) (v := ?v15_2b3) (fuel := 16) rfl (by kernel_rfl) (by kernel_rfl) (fun _ _ _ h => h) hD rfl (.inl ⟨by kernel_rfl, ?y15_2b3⟩) ?n15_2b3
          case y15_2b3 => intro w' _; go_simp; with_reducible rfl
          clear hD; intro hD
          simp only [Act.put, sqA, sqB, sqC]
          refine wpAnyK_pureD (i := 3) (d := some 69) (v := ?v15_3b3) (fuel := 15) rfl (by kernel_rfl) (by kernel_rfl) (fun _ _ _ h => h) hD rfl (.inl ⟨by kernel_rfl, ?y15_3b3⟩) ?n15_3b3
          case y15_3b3 => intro w' _; go_simp; with_reducible rfl
          clear hD; intro hD
          simp only [Act.put, sqA, sqB, sqC]
          refine wpAnyK_pureD (i := 4) (d := some 70) (v := ?v15_4b3) (fuel := 14) rfl (by kernel_rfl) (by kernel_rfl) (fun _ _ _ h => h) hD rfl (.inl ⟨by kernel_rfl, ?y15_4b3⟩) ?n15_4b3
          case y15_4b3 => intro w' _; go_simp; with_reducible rfl
          clear hD; intro hD
          simp only [Act.put, sqA, sqB, sqC]
          refine wpAnyK_pureD (i := 5) (d := some 71) (v := ?v15_5b3) (fuel := 13) rfl (by kernel_rfl) (by kernel_rfl) (fun _ _ _ h => h) hD rfl (.inl ⟨by kernel_rfl, ?y15_5b3⟩) ?n15_5b3
          case y15_5b3 => intro w' _; go_simp; with_reducible rfl
          clear hD; intro hD
          simp only [Act.put, sqA, sqB, sqC]
          refine wpAnyK_takeD (i := 6) (d := some 72) (v := ?v15_6b3) (fuel := 12) rfl (by kernel_rfl) (by kernel_rfl) (by kernel_rfl) (fun _ _ _ h => h) hD rfl (.inl ⟨by kernel_rfl, ?y15_6b3⟩) ?n15_6b3
          case y15_6b3 => intro w' hS'; have e0 := (hS' ▸ c16); have e1 := (hS' ▸ c7); go_simp; with_reducible rfl
          clear hD; intro hD
          simp only [Act.put, sqA, sqB, sqC]
          refine wpAnyK_pureD (i := 7) (d := some 73) (v := ?v15_7b3) (fuel := 11) rfl (by kernel_rfl) (by kernel_rfl) (fun _ _ _ h => h) hD rfl (.inl ⟨by kernel_rfl, ?y15_7b3⟩) ?n15_7b3
          case y15_7b3 => intro w' _; go_simp; with_reducible rfl
          clear hD; intro hD
          simp only [Act.put, sqA, sqB, sqC]
          refine wpAnyK_pureD (i := 8) (d := some 74) (v := ?v15_8b3) (fuel := 10) rfl (by kernel_rfl) (by kernel_rfl) (fun _ _ _ h => h) hD rfl (.inl ⟨by kernel_rfl, ?y15_8b3⟩) ?n15_8b3
          case y15_8b3 => intro w' _; go_simp; with_reducible rfl
          clear hD; intro hD
          simp only [Act.put, sqA, sqB, sqC]
          refine wpAnyK_pureD (i := 9) (d := some 75) (v := ?v15_9b3) (fuel := 9) rfl (by kernel_rfl) (by kernel_rfl) (fun _ _ _ h => h) hD rfl (.inl ⟨by kernel_rfl, ?y15_9b3⟩) ?n15_9b3
          case y15_9b3 => intro w' _; go_simp; with_reducible rfl
          clear hD; intro hD
          simp only [Act.put, sqA, sqB, sqC]
          refine wpAnyK_pureD (i := 10) (d := some 76) (v := ?v15_10b3) (fuel := 8) rfl (by kernel_rfl) (by kernel_rfl) (fun _ _ _ h => h) hD rfl (.inl ⟨by kernel_rfl, ?y15_10b3⟩) ?n15_10b3
          case y15_10b3 => intro w' _; go_simp; with_reducible rfl
          clear hD; intro hD
          simp only [Act.put, sqA, sqB, sqC]
          refine wpAnyK_pureD (i := 11) (d := some 77) (v := ?v15_11b3) (fuel := 7) rfl (by kernel_rfl) (by kernel_rfl) (fun _ _ _ h => h) hD rfl (.inl ⟨by kernel_rfl, ?y15_11b3⟩) ?n15_11b3
          case y15_11b3 => intro w' _; go_simp; with_reducible rfl
          clear hD; intro hD
          simp only [Act.put, sqA, sqB, sqC]
          refine wpAnyK_pureD (i := 12) (d := some 78) (v := ?v15_12b3) (fuel := 6) rfl (by kernel_rfl) (by kernel_rfl) (fun _ _ _ h => h) hD rfl (.inl ⟨by kernel_rfl, ?y15_12b3⟩) ?n15_12b3
          case y15_12b3 => intro w' _; go_simp; with_reducible rfl
          clear hD; intro hD
          simp only [Act.put, sqA, sqB, sqC]
          refine wpAnyK_takeD (i := 13) (d := some 79) (v := ?v15_13b3) (fuel := 5) rfl (by kernel_rfl) (by kernel_rfl) (by kernel_rfl) (fun _ _ _ h => h) hD rfl (.inl ⟨by kernel_rfl, ?y15_13b3⟩) ?n15_13b3
          case y15_13b3 => intro w' hS'; have e0 := (hS' ▸ c16); have e1 := (hS' ▸ c7); go_simp; with_reducible rfl
          clear hD; intro hD
          simp only [Act.put, sqA, sqB, sqC]
          refine wpAnyK_pureD (i := 14) (d := some 80) (v := ?v15_14b3) (fuel := 4) rfl (by kernel_rfl) (by kernel_rfl) (fun _ _ _ h => h) hD rfl (.inl ⟨by kernel_rfl, ?y15_14b3⟩) ?n15_14b3
          case y15_14b3 => intro w' _; go_simp; with_reducible rfl
          clear hD; intro hD
          simp only [Act.put, sqA, sqB, sqC]
          refine wpAnyK_pureD (i := 15) (d := some 81) (v := ?v15_15b3) (fuel := 3) rfl (by kernel_rfl) (by kernel_rfl) (fun _ _ _ h => h) hD rfl (.inl ⟨by kernel_rfl, ?y15_15b3⟩) ?n15_15b3
          case y15_15b3 => intro w' _; go_simp; with_reducible rfl
          clear hD; intro hD
          simp only [Act.put, sqA, sqB, sqC]
          refine wpAnyK_pureD (i := 16) (d := some 82) (v := ?v15_16b3) (fuel := 2) rfl (by kernel_rfl) (by kernel_rfl) (fun _ _ _ h => h) hD rfl (.inl ⟨by kernel_rfl, ?y15_16b3⟩) ?n15_16b3
          case y15_16b3 => intro w' _; go_simp; with_reducible rfl
          clear hD; intro hD
          simp only [Act.put, sqA, sqB, sqC]
          refine wpAnyK_pureD (i := 17) (d := some 83) (v := ?v15_17b3) (fuel := 1) rfl (by kernel_rfl) (by kernel_rfl) (fun _ _ _ h => h) hD rfl (.inl ⟨by kernel_rfl, ?y15_17b3⟩) ?n15_17b3
          case y15_17b3 => intro w' _; go_simp; with_reducible rfl
          clear hD; intro hD
          simp only [Act.put, sqA, sqB, sqC]
          refine wpAnyK_oneT (i := 18) (fuel := 0) (by kernel_rfl) rfl hD (by kernel_rfl) ?_
          clear hD; intro K18 hK18
          go_wp2
          refine hK18 _ _ ?_; clear hK18; intro hD
          refine wpAnyK_done (by kernel_rfl) ?_ 0
          clear hD
          clear i15 i2 i16 i7 l15 l2 l16 l7 v15 v2 v16 v7 c16 c7 hf hcw
          rw [sched_val2, ← HV.out]
          obtain ⟨V, hV⟩ : ∃ V, wv m k = V := ⟨_, rfl⟩
          rw [hV]
          have HVV := Lib.hid hV
          clear hV HV
          go_wp2
          go_roundw
          case rel =>
            refine ⟨k + 1, by omega, by omega, by go_num, ?_, ?_⟩
            · rw [← hwe]
              refine (HR4.out.drew.set k V).congr fun i hi => ?_
              unfold wz
              by_cases e : i = k
              · rw [if_pos e, if_pos (by omega), e, HVV.out]
              · rw [if_neg e]
                by_cases h : i < k
                · rw [if_pos h, if_pos (by omega)]
                · rw [if_neg h, if_neg (by omega)]
            · rw [← hwe]; exact HBB.out.drew.setCell (Nat.le_refl _) _
          case measure => simp [RowKit.intOf]; omega
        · have HK := Lib.hid (show k = 64 from by omega)
          have hge : ¬ ((k : Int) < 64) := by omega
          have HR3 := Lib.hid (show RowW wr H 64 216 (wv m) from HR.out.congr fun i hi => by unfold wz; rw [if_pos (by have := HK.out; omega)])
          clear hk0 hk hlt HK
          go_wp2
          go_ret
          exact ⟨rfl, HR3.out, HB.out⟩
end Go.Proofs.YtndmjfkmnjejkaaGreatDoor
/- Walk: the reference's compress. -/
set_option linter.unusedVariables false
set_option linter.unusedSimpArgs false
namespace Go.Proofs.YtndmjfkmnjejkaaGreatDoor
open Go.RowKit Go.Lib
def RowV8 (w : World) (g c : Nat) (f : Nat → BitVec 32) : Prop := ∃ cur : Array Value, w.heap[g]? = some (.cells cur 216 (0, 0)) ∧ cur.size = c ∧ 8 ≤ c ∧ c ≤ 9223372036854775807 ∧ ∀ j, j < 8 → cur[j]? = some (.int .u32 (wi (f j)))
theorem RowV8.cell {w : World} {g c : Nat} {f : Nat → BitVec 32} (h : RowV8 w g c f) {k : Nat} (hk : k < 8) : w.cell? ⟨g, k, none⟩ = some (.int .u32 (wi (f k))) := by
  obtain ⟨cur, h1, _, _, _, h2⟩ := h
  rw [Lib.cell_of_heap h1]; exact h2 k hk
theorem RowV8.free {w : World} {g c : Nat} {f : Nat → BitVec 32} (h : RowV8 w g c f) (k : Nat) : w.frozen? ⟨g, k, none⟩ = false := by
  obtain ⟨cur, h1, _⟩ := h
  exact Lib.frozen_of_heap h1 k
theorem RowV8.kept {w w' : World} {K g c : Nat} {f : Nat → BitVec 32} (h : RowV8 w g c f) (hb : Below K w w') (hB : g < K) : RowV8 w' g c f := by
  obtain ⟨cur, h1, h2⟩ := h
  exact ⟨cur, (hb.block g hB).trans h1, h2⟩
theorem RowV8.drew {w : World} {g c : Nat} {f : Nat → BitVec 32} (h : RowV8 w g c f) : RowV8 w.drew g c f := h
theorem RowV8.lt {w : World} {g c : Nat} {f : Nat → BitVec 32} (h : RowV8 w g c f) : g < w.heap.size := by
  obtain ⟨cur, h1, _⟩ := h
  exact block_lt h1
theorem RowV8.congr {w : World} {g c : Nat} {f f' : Nat → BitVec 32} (h : RowV8 w g c f) (hf : ∀ j, j < 8 → f j = f' j) : RowV8 w g c f' := by
  obtain ⟨cur, h1, h2, h3, h4, h5⟩ := h
  exact ⟨cur, h1, h2, h3, h4, fun j hj => by rw [h5 j hj, hf j hj]⟩
theorem RowV8.set {w : World} {g c : Nat} {f : Nat → BitVec 32} (h : RowV8 w g c f) (k : Nat) (x : BitVec 32) : RowV8 (w.setCell ⟨g, k, none⟩ (.int .u32 (wi x))) g c (fun j => if j = k then x else f j) := by
  obtain ⟨cur, h1, h2, h3, h4, h5⟩ := h
  refine ⟨_, block_setCell h1 _, by rw [Array.size_setIfInBounds, h2], h3, h4, fun j hj => ?_⟩
  rw [Array.getElem?_setIfInBounds]
  simp only []
  by_cases e : k = j
  · subst e; rw [if_pos rfl, if_pos (by omega), if_pos rfl]
  · rw [if_neg e, if_neg (Ne.symm e)]; exact h5 j hj
theorem RowV8.of {w : World} {g : Nat} {f : Nat → BitVec 32} (h : RowW w g 8 216 f) : RowV8 w g 8 f := ⟨_, h, wa_size _ _, Nat.le_refl _, by omega, fun j hj => wa_get f hj⟩
theorem RowV8.c8 {w : World} {B c' : Nat} {a b c d e f g h : BitVec 32} (H : RowV8 w B c' (W8.at ⟨a, b, c, d, e, f, g, h⟩)) : w.cell? ⟨B, 0, none⟩ = some (.int .u32 (wi a)) ∧ w.cell? ⟨B, 1, none⟩ = some (.int .u32 (wi b)) ∧ w.cell? ⟨B, 2, none⟩ = some (.int .u32 (wi c)) ∧ w.cell? ⟨B, 3, none⟩ = some (.int .u32 (wi d)) ∧ w.cell? ⟨B, 4, none⟩ = some (.int .u32 (wi e)) ∧ w.cell? ⟨B, 5, none⟩ = some (.int .u32 (wi f)) ∧ w.cell? ⟨B, 6, none⟩ = some (.int .u32 (wi g)) ∧ w.cell? ⟨B, 7, none⟩ = some (.int .u32 (wi h)) :=
  ⟨H.cell (k := 0) (by decide), H.cell (k := 1) (by decide), H.cell (k := 2) (by decide), H.cell (k := 3) (by decide), H.cell (k := 4) (by decide), H.cell (k := 5) (by decide), H.cell (k := 6) (by decide), H.cell (k := 7) (by decide)⟩
theorem wpList_append_state (w0 : World) {ops : Array Oper} {rest : List Oper} {o : Oper} {a : Act} {Q : Exit → Act → World → Prop} (hg : o.guard = none) (s x : Operand) (hop : o.op = Op.call { callee := Callee.builtin Builtin.append, args := #[s, x], argTypes := #[173, 173] })
    (hs : a.eval s = .slice (some ⟨w0.heap.size, 0, none⟩) 0 0) (b c : Nat) (S : W8) (hx : a.eval x = .slice (some ⟨b, 0, none⟩) 8 c) (hv : RowV8 w0 b c S.at)
    (hK : ∀ g c' w', RowV8 w' g c' S.at → w0.heap.size ≤ g → Below w0.heap.size w0 w' → wpList Tryz.prog ops Q rest (a.put o.dst (.slice (some ⟨g, 0, none⟩) 8 c')) w') : wpList Tryz.prog ops Q (o :: rest) a (w0.alloc (.cells #[] 216)) := by
  obtain ⟨i0, hi, hz0, hz1, hz2⟩ := info_parts word_info
  have hml : maxLen = 9223372036854775807 := rfl
  refine wpList_append_lies (w0.alloc (.cells #[] 216)) hg s x 173 hop w0.heap.size 216 i0 (.int .u32 0) 1 4 Tryz.underlying173 hi hz0 hz1 hz2 rfl (by decide) _ 0 [] hs (World.ownsRow_made w0 #[] 0 (Nat.le_refl _) (by omega) rfl) ⟨b, 0, none⟩ 8 c S.arr.toList hx rfl (fun j u hj => ?_) (by have := W8.arr_one S; rw [Array.all_eq_true'] at this; intro u hu; exact this u (by simpa using hu)) (by decide) (by omega) (by omega) (by simp) _ rfl (fun g cap w' h1 h2 h3 h4 => hK g cap w' ?_ ?_ ?_)
  · have hj8 : j < 8 := (List.getElem?_eq_some_iff.1 hj).1
    rw [Addr.add_lit, Nat.zero_add]
    have := (hv.kept ((Below.refl _ _).alloc (Nat.le_refl _) (.cells #[] 216)) hv.lt).cell hj8
    rw [this, ← hj]
    have e : S.arr.toList[j]? = (wa 8 S.at)[j]? := by rw [← W8.arr_wa]; simp
    rw [e, wa_get _ hj8]
  · rcases h1.2 with ⟨h, _⟩ | ⟨g', cap', cur, hv', hb', hg', q1, q2, q3, q4⟩
    · cases h
    · cases hv'
      refine ⟨cur, hg', by omega, by omega, by omega, fun j hj => ?_⟩
      have := congrArg (fun l => l[j]?) q4
      simp only [List.nil_append] at this
      rw [List.getElem?_take, if_pos (by omega), Array.getElem?_toList] at this
      rw [this]
      have e : S.arr.toList[j]? = (wa 8 S.at)[j]? := by rw [← W8.arr_wa]; simp
      rw [e, wa_get _ hj]
  · exact (h1.lt g rfl).1
  · exact ((Below.refl _ _).alloc (Nat.le_refl _) _).trans ⟨h2.os, h2.tape, h2.output, h2.size, fun k hk => h2.block k (by have := World.size_alloc w0 (.cells #[] 216); omega) (fun e => by have : k = w0.heap.size := Option.some.inj e; omega)⟩
theorem tv_val2 (e f g h k w : BitVec 32) : ((((wi h + bits .xor .u32 (bits .xor .u32 (wi (rr e 6)) (wi (rr e 11))) (wi (rr e 25))) % 4294967296 + bits .xor .u32 (bits .and .u32 (wi e) (wi f)) (bits .and .u32 (bits .xor .u32 IntKind.u32.max (wi e)) (wi g))) % 4294967296 + wi k) % 4294967296 + wi w) % 4294967296 =
    wi (h + (rr e 6 ^^^ rr e 11 ^^^ rr e 25) + (e &&& f ^^^ ~~~ e &&& g) + k + w) := by
  rw [u32_max, wi_not, wi_xor, wi_xor, wi_and, wi_and, wi_xor, mod_val, mod_val, mod_val, mod_val]
theorem tu_val (t a b c : BitVec 32) : (wi t + (bits .xor .u32 (bits .xor .u32 (wi (rr a 2)) (wi (rr a 13))) (wi (rr a 22)) + bits .xor .u32 (bits .xor .u32 (bits .and .u32 (wi a) (wi b)) (bits .and .u32 (wi a) (wi c))) (bits .and .u32 (wi b) (wi c)))) % 4294967296 =
    wi (t + ((rr a 2 ^^^ rr a 13 ^^^ rr a 22) + (a &&& b ^^^ a &&& c ^^^ b &&& c))) := by
  rw [← mod_val, ← uv_val]; omega
theorem RowV8.new (w : World) (S : W8) : RowV8 (w.alloc (.cells S.arr 216)) w.heap.size 8 S.at := RowV8.of (by unfold RowW; rw [← W8.arr_wa]; exact heap_alloc_new _ _)
theorem below_up {a w w' : World} {B : Nat} (h : Below B a w) (hB : B ≤ w.heap.size) (hb : Below w.heap.size w w') : Below B a w' := h.trans (hb.mono hB)
set_option maxRecDepth 100000 in
set_option maxHeartbeats 2000000 in
theorem r05_compress (S : W8) (s : ByteArray) (hs : s.size = 64) (b c : Nat) (w : World) (hv : RowV8 w b c S.at) : Calls Tryz.prog 232 #[.slice (some ⟨b, 0, none⟩) 8 c, .string s] w fun e w' => ∃ g c', e = .returned (.slice (some ⟨g, 0, none⟩) 8 c') ∧ RowV8 w' g c' (blk S s.data.toList).at ∧ w.heap.size ≤ g ∧ Below w.heap.size w w' := by
  have HV := Lib.hid hv
  have HS := Lib.hid hs
  clear hv hs
  obtain ⟨Y, hY⟩ : ∃ Y, blk S s.data.toList = Y := ⟨_, rfl⟩
  have HY := Lib.hid hY
  rw [hY]
  clear hY
  go_enter Tryz.func232, Tryz.ntmps232
  go_wp2_with fail
  refine (r05_schedule s HS.out w).mono ?_
  rintro e w1 ⟨rfl, hr1, hb1⟩
  have HR1 := Lib.hid hr1
  have HB1 := Lib.hid hb1
  clear hr1 hb1
  obtain ⟨m, hm⟩ : ∃ m, s.data.toList = m := ⟨_, rfl⟩
  rw [hm] at HR1 HY
  clear hm
  go_wp2_with fail
  refine (r05_constants w1).mono ?_
  rintro e w2 ⟨rfl, hr2, hb2⟩
  have HK2 := Lib.hid hr2
  have HR2 := Lib.hid (HR1.out.kept hb2 HR1.out.lt)
  have HB2 := Lib.hid (below_up HB1.out HB1.out.size hb2)
  have HS2 := Lib.hid hb2.size
  have HV2 := Lib.hid (HV.out.kept HB2.out HV.out.lt)
  obtain ⟨H, hH⟩ : ∃ H, w.heap.size = H := ⟨_, rfl⟩
  obtain ⟨H1, hH1⟩ : ∃ H, w1.heap.size = H := ⟨_, rfl⟩
  have hH01 : H < H1 := by rw [← hH, ← hH1]; exact HR1.out.lt
  have hbH : b < H := by rw [← hH]; exact HV.out.lt
  rw [hH] at HR2 HB2 ⊢
  rw [hH1] at HK2 ⊢
  clear hb2 HB1 HR1 HS2
  go_wp2_with (at_builtin; refine wpList_append_state w2 rfl (.tmp 21) (.tmp 22) rfl rfl b c S rfl HV2.out ?_)
  intro g c' w3 hv3 hg3 hb3
  have hsz2 : H1 < w2.heap.size := by rw [← hH1] at HK2 ⊢; exact HK2.out.lt
  have HV3 := Lib.hid hv3
  have HB3 := Lib.hid (HB2.out.trans (hb3.mono (by omega)))
  have HR3 := Lib.hid (HR2.out.kept hb3 (by omega))
  have HK3 := Lib.hid (HK2.out.kept hb3 hsz2)
  have HG3 := Lib.hid (show H ≤ g from by omega)
  obtain ⟨L, hL⟩ : ∃ L, w3.heap.size = L := ⟨_, rfl⟩
  have hH1L : H1 < L := by rw [← hL]; have := hb3.size; omega
  clear hv3 hg3 hb3 HR2 HK2 HB2 HV2 hsz2
  go_wp2
  go_loopw [7, 8] (fun v i wr => ∃ k g c : Nat, k ≤ 64 ∧ v = .slice (some ⟨g, 0, none⟩) 8 c ∧ i = .int .i64 k ∧ H ≤ g ∧ RowV8 wr g c (rds m S k).at ∧ Below L w3 wr) (fun _ i _ => 64 - (RowKit.intOf i).toNat)
  case atStart => exact ⟨0, g, c', by omega, rfl, rfl, HG3.out, by rw [rds_zero]; exact HV3.out, Below.refl _ _⟩
  case round =>
    obtain ⟨k, g, c2, hk, rfl, rfl, hg, hx, hb⟩ := hrel
    have HX2 := Lib.hid hx
    have HBR := Lib.hid hb
    have HG := Lib.hid hg
    clear hx hb hg
    by_cases hlt : k < 64
    · have hlti : (k : Int) < 64 := by omega
      obtain ⟨⟨a, b', c, d, e, f, g', hh⟩, hst⟩ : ∃ x, rds m S k = x := ⟨_, rfl⟩
      have HST := Lib.hid hst
      rw [hst] at HX2
      clear hst
      obtain ⟨c0, c1, c2', c3, c4, c5, c6, c7⟩ := HX2.out.drew.c8
      clear c3 c7
      have HKW := Lib.hid (HK3.out.kept HBR.out hH1L)
      have HWW := Lib.hid (HR3.out.kept HBR.out (by omega))
      obtain ⟨wd, hwd⟩ : ∃ wd, wr.drew = wd := ⟨_, rfl⟩
      have HXD := Lib.hid (show RowV8 wd g c2 (W8.at ⟨a, b', c, d, e, f, g', hh⟩) from by rw [← hwd]; exact HX2.out)
      have HKD := Lib.hid (show RowW wd H1 64 216 kv from by rw [← hwd]; exact HKW.out.drew)
      have HWD := Lib.hid (show RowW wd H 64 216 (wv m) from by rw [← hwd]; exact HWW.out.drew)
      have HBD := Lib.hid (show Below L w3 wd from by rw [← hwd]; exact HBR.out.drew)
      rw [hwd] at c0 c1 c2' c4 c5 c6
      go_wp2
      refine wp_region_K 24 (Eq wd) (by kernel_rfl) ?_
      intro hD
      rw [hwd]
      refine wpAnyK_pureD (i := 0) (d := some 28) (v := ?v6_0b1) (fuel := 23) rfl (by kernel_rfl) (by kernel_rfl) (fun _ _ _ h => h) hD rfl (.inl ⟨by kernel_rfl, ?y6_0b1⟩) ?n6_0b1
      case y6_0b1 => intro w' _; go_simp; with_reducible rfl
      clear hD; intro hD
      simp only [Act.put, sqA, sqB, sqC]
      refine wpAnyK_pureD (i := 1) (d := some 29) (v := ?v6_1b1) (fuel := 22) rfl (by kernel_rfl) (by kernel_rfl) (fun _ _ _ h => h) hD rfl (.inl ⟨by kernel_rfl, ?y6_1b1⟩) ?n6_1b1
      case y6_1b1 => intro w' _; go_simp; with_reducible rfl
      clear hD; intro hD
      simp only [Act.put, sqA, sqB, sqC]
      refine wpAnyK_takeSD (i := 2) (d := some 30) (v := ?v6_2b1) (fuel := 21) rfl (by kernel_rfl) (by kernel_rfl) (by kernel_rfl) (fun _ _ _ h => h) hD rfl (.inl ⟨by kernel_rfl, ?y6_2b1⟩) ?n6_2b1
      case y6_2b1 => intro w' hS'; have e0 := (hS' ▸ c0); have e1 := (hS' ▸ c1); have e2 := (hS' ▸ c2'); have e3 := (hS' ▸ c4); have e4 := (hS' ▸ c5); have e5 := (hS' ▸ c6); go_simp; with_reducible rfl
      clear hD; intro hD
      simp only [Act.put, sqA, sqB, sqC]
      refine wpAnyK_pureD (i := 3) (d := some 31) (v := ?v6_3b1) (fuel := 20) rfl (by kernel_rfl) (by kernel_rfl) (fun _ _ _ h => h) hD rfl (.inl ⟨by kernel_rfl, ?y6_3b1⟩) ?n6_3b1
      case y6_3b1 => intro w' _; go_simp; with_reducible rfl
      clear hD; intro hD
      simp only [Act.put, sqA, sqB, sqC]
      refine wpAnyK_pureD (i := 4) (d := some 32) (v := ?v6_4b1) (fuel := 19) rfl (by kernel_rfl) (by kernel_rfl) (fun _ _ _ h => h) hD rfl (.inl ⟨by kernel_rfl, ?y6_4b1⟩) ?n6_4b1
      case y6_4b1 => intro w' _; go_simp; with_reducible rfl
      clear hD; intro hD
      simp only [Act.put, sqA, sqB, sqC]
      refine wpAnyK_takeSD (i := 5) (d := some 33) (v := ?v6_5b1) (fuel := 18) rfl (by kernel_rfl) (by kernel_rfl) (by kernel_rfl) (fun _ _ _ h => h) hD rfl (.inl ⟨by kernel_rfl, ?y6_5b1⟩) ?n6_5b1
      case y6_5b1 => intro w' hS'; have e0 := (hS' ▸ c0); have e1 := (hS' ▸ c1); have e2 := (hS' ▸ c2'); have e3 := (hS' ▸ c4); have e4 := (hS' ▸ c5); have e5 := (hS' ▸ c6); go_simp; with_reducible rfl
      clear hD; intro hD
      simp only [Act.put, sqA, sqB, sqC]
      refine wpAnyK_pureD (i := 6) (d := some 34) (v := ?v6_6b1) (fuel := 17) rfl (by kernel_rfl) (by kernel_rfl) (fun _ _ _ h => h) hD rfl (.inl ⟨by kernel_rfl, ?y6_6b1⟩) ?n6_6b1
      case y6_6b1 => intro w' _; go_simp; with_reducible rfl
      clear hD; intro hD
      simp only [Act.put, sqA, sqB, sqC]
      refine wpAnyK_pureD (i := 7) (d := some 35) (v := ?v6_7b1) (fuel := 16) rfl (by kernel_rfl) (by kernel_rfl) (fun _ _ _ h => h) hD rfl (.inl ⟨by kernel_rfl, ?y6_7b1⟩) ?n6_7b1
      case y6_7b1 => intro w' _; go_simp; with_reducible rfl
      clear hD; intro hD
      simp only [Act.put, sqA, sqB, sqC]
      refine wpAnyK_takeSD (i := 8) (d := some 36) (v := ?v6_8b1) (fuel := 15) rfl (by kernel_rfl) (by kernel_rfl) (by kernel_rfl) (fun _ _ _ h => h) hD rfl (.inl ⟨by kernel_rfl, ?y6_8b1⟩) ?n6_8b1
      case y6_8b1 => intro w' hS'; have e0 := (hS' ▸ c0); have e1 := (hS' ▸ c1); have e2 := (hS' ▸ c2'); have e3 := (hS' ▸ c4); have e4 := (hS' ▸ c5); have e5 := (hS' ▸ c6); go_simp; with_reducible rfl
      clear hD; intro hD
      simp only [Act.put, sqA, sqB, sqC]
      refine wpAnyK_pureD (i := 9) (d := some 37) (v := ?v6_9b1) (fuel := 14) rfl (by kernel_rfl) (by kernel_rfl) (fun _ _ _ h => h) hD rfl (.inl ⟨by kernel_rfl, ?y6_9b1⟩) ?n6_9b1
      case y6_9b1 => intro w' _; go_simp; with_reducible rfl
      clear hD; intro hD
      simp only [Act.put, sqA, sqB, sqC]
      refine wpAnyK_pureD (i := 10) (d := some 38) (v := ?v6_10b1) (fuel := 13) rfl (by kernel_rfl) (by kernel_rfl) (fun _ _ _ h => h) hD rfl (.inl ⟨by kernel_rfl, ?y6_10b1⟩) ?n6_10b1
      case y6_10b1 => intro w' _; go_simp; with_reducible rfl
      clear hD; intro hD
      simp only [Act.put, sqA, sqB, sqC]
      refine wpAnyK_takeSD (i := 11) (d := some 39) (v := ?v6_11b1) (fuel := 12) rfl (by kernel_rfl) (by kernel_rfl) (by kernel_rfl) (fun _ _ _ h => h) hD rfl (.inl ⟨by kernel_rfl, ?y6_11b1⟩) ?n6_11b1
      case y6_11b1 => intro w' hS'; have e0 := (hS' ▸ c0); have e1 := (hS' ▸ c1); have e2 := (hS' ▸ c2'); have e3 := (hS' ▸ c4); have e4 := (hS' ▸ c5); have e5 := (hS' ▸ c6); go_simp; with_reducible rfl
      clear hD; intro hD
      simp only [Act.put, sqA, sqB, sqC]
      refine wpAnyK_pureD (i := 12) (d := some 40) (v := ?v6_12b1) (fuel := 11) rfl (by kernel_rfl) (by kernel_rfl) (fun _ _ _ h => h) hD rfl (.inl ⟨by kernel_rfl, ?y6_12b1⟩) ?n6_12b1
      case y6_12b1 => intro w' _; go_simp; with_reducible rfl
      clear hD; intro hD
      simp only [Act.put, sqA, sqB, sqC]
      refine wpAnyK_pureD (i := 13) (d := some 41) (v := ?v6_13b1) (fuel := 10) rfl (by kernel_rfl) (by kernel_rfl) (fun _ _ _ h => h) hD rfl (.inl ⟨by kernel_rfl, ?y6_13b1⟩) ?n6_13b1
      case y6_13b1 => intro w' _; go_simp; with_reducible rfl
      clear hD; intro hD
      simp only [Act.put, sqA, sqB, sqC]
      refine wpAnyK_takeSD (i := 14) (d := some 42) (v := ?v6_14b1) (fuel := 9) rfl (by kernel_rfl) (by kernel_rfl) (by kernel_rfl) (fun _ _ _ h => h) hD rfl (.inl ⟨by kernel_rfl, ?y6_14b1⟩) ?n6_14b1
      case y6_14b1 => intro w' hS'; have e0 := (hS' ▸ c0); have e1 := (hS' ▸ c1); have e2 := (hS' ▸ c2'); have e3 := (hS' ▸ c4); have e4 := (hS' ▸ c5); have e5 := (hS' ▸ c6); go_simp; with_reducible rfl
      clear hD; intro hD
      simp only [Act.put, sqA, sqB, sqC]
      refine wpAnyK_pureD (i := 15) (d := some 43) (v := ?v6_15b1) (fuel := 8) rfl (by kernel_rfl) (by kernel_rfl) (fun _ _ _ h => h) hD rfl (.inl ⟨by kernel_rfl, ?y6_15b1⟩) ?n6_15b1
      case y6_15b1 => intro w' _; go_simp; with_reducible rfl
      clear hD; intro hD
      simp only [Act.put, sqA, sqB, sqC]
      refine wpAnyK_pureD (i := 16) (d := some 44) (v := ?v6_16b1) (fuel := 7) rfl (by kernel_rfl) (by kernel_rfl) (fun _ _ _ h => h) hD rfl (.inl ⟨by kernel_rfl, ?y6_16b1⟩) ?n6_16b1
      case y6_16b1 => intro w' _; go_simp; with_reducible rfl
      clear hD; intro hD
      simp only [Act.put, sqA, sqB, sqC]
      refine wpAnyK_takeSD (i := 17) (d := some 45) (v := ?v6_17b1) (fuel := 6) rfl (by kernel_rfl) (by kernel_rfl) (by kernel_rfl) (fun _ _ _ h => h) hD rfl (.inl ⟨by kernel_rfl, ?y6_17b1⟩) ?n6_17b1
      case y6_17b1 => intro w' hS'; have e0 := (hS' ▸ c0); have e1 := (hS' ▸ c1); have e2 := (hS' ▸ c2'); have e3 := (hS' ▸ c4); have e4 := (hS' ▸ c5); have e5 := (hS' ▸ c6); go_simp; with_reducible rfl
      clear hD; intro hD
      simp only [Act.put, sqA, sqB, sqC]
      refine wpAnyK_one (i := 18) (fuel := 5) (by kernel_rfl) rfl hD ?_
      clear hD; intro K18 hK18
      go_wp2
      refine hK18 _ _ (by rfl) ?_; clear hK18; intro hS_6_18 hD
      refine wpAnyK_one (i := 19) (fuel := 4) (by kernel_rfl) rfl hD ?_
      clear hD; intro K19 hK19
      go_wp2
      refine hK19 _ _ (by rfl) ?_; clear hK19; intro hS_6_19 hD
      refine wpAnyK_one (i := 20) (fuel := 3) (by kernel_rfl) rfl hD ?_
      clear hD; intro K20 hK20
      go_wp2
      refine hK20 _ _ (by rfl) ?_; clear hK20; intro hS_6_20 hD
      refine wpAnyK_one (i := 21) (fuel := 2) (by kernel_rfl) rfl hD ?_
      clear hD; intro K21 hK21
      go_wp2
      refine hK21 _ _ (by rfl) ?_; clear hK21; intro hS_6_21 hD
      refine wpAnyK_one (i := 22) (fuel := 1) (by kernel_rfl) rfl hD ?_
      clear hD; intro K22 hK22
      go_wp2
      refine hK22 _ _ (by rfl) ?_; clear hK22; intro hS_6_22 hD
      refine wpAnyK_one (i := 23) (fuel := 0) (by kernel_rfl) rfl hD ?_
      clear hD; intro K23 hK23
      go_wp2
      refine hK23 _ _ (by rfl) ?_; clear hK23; intro hS_6_23 hD
      refine wpAnyK_done (by kernel_rfl) ?_ 0
      clear hD
      clear c0 c1 c2' c4 c5 c6 hwd HX2 HKW HWW HBR
      obtain ⟨we, hwe⟩ : ∃ we, wd.drew = we := ⟨_, rfl⟩
      have HXE := Lib.hid (show RowV8 we g c2 (W8.at ⟨a, b', c, d, e, f, g', hh⟩) from by rw [← hwe]; exact HXD.out)
      obtain ⟨_, _, _, _, _, _, _, c7⟩ := HXE.out.c8
      have ck := (show RowW we H1 64 216 kv from by rw [← hwe]; exact HKD.out).cell hlt
      have cw := (show RowW we H 64 216 (wv m) from by rw [← hwe]; exact HWD.out).cell hlt
      obtain ⟨kk, hkk⟩ : ∃ x, kv k = x := ⟨_, rfl⟩
      obtain ⟨ww, hww⟩ : ∃ x, wv m k = x := ⟨_, rfl⟩
      rw [hkk] at ck
      rw [hww] at cw
      have HKK := Lib.hid hkk
      have HWW := Lib.hid hww
      clear hkk hww
      have HBE := Lib.hid (show Below L w3 we from by rw [← hwe]; exact HBD.out.drew)
      go_wp2
      refine wp_region_K 32 (Below (we).heap.size (we)) (by kernel_rfl) ?_
      intro hD
      rw [hwe]
      refine wpAnyK_pureD (i := 0) (d := some 46) (v := ?v7_0b2) (fuel := 31) rfl (by kernel_rfl) (by kernel_rfl) (fun _ _ _ h => h) hD (Below.refl _ _) (.inl ⟨by kernel_rfl, ?y7_0b2⟩) ?n7_0b2
      case y7_0b2 => intro w' _; go_simp; with_reducible rfl
      clear hD; intro hD
      simp only [Act.put, sqA, sqB, sqC]
      refine wpAnyK_pureD (i := 1) (d := some 47) (v := ?v7_1b2) (fuel := 30) rfl (by kernel_rfl) (by kernel_rfl) (fun _ _ _ h => h) hD (Below.refl _ _) (.inl ⟨by kernel_rfl, ?y7_1b2⟩) ?n7_1b2
      case y7_1b2 => intro w' _; go_simp; with_reducible rfl
      clear hD; intro hD
      simp only [Act.put, sqA, sqB, sqC]
      refine wpAnyK_takeSD (i := 2) (d := some 48) (v := ?v7_2b2) (fuel := 29) rfl (by kernel_rfl) (by kernel_rfl) (by kernel_rfl) (fun _ _ _ h => h) hD (Below.refl _ _) (.inl ⟨by kernel_rfl, ?y7_2b2⟩) ?n7_2b2
      case y7_2b2 => intro w' hS'; have e0 := cell_kept hS' (Nat.le_refl _) c7; have e1 := cell_kept hS' (Nat.le_refl _) ck; have e2 := cell_kept hS' (Nat.le_refl _) cw; go_simp; with_reducible rfl
      clear hD; intro hD
      simp only [Act.put, sqA, sqB, sqC]
      refine wpAnyK_pureD (i := 3) (d := some 49) (v := ?v7_3b2) (fuel := 28) rfl (by kernel_rfl) (by kernel_rfl) (fun _ _ _ h => h) hD (Below.refl _ _) (.inl ⟨by kernel_rfl, ?y7_3b2⟩) ?n7_3b2
      case y7_3b2 => intro w' _; go_simp; with_reducible rfl
      clear hD; intro hD
      simp only [Act.put, sqA, sqB, sqC]
      refine wpAnyK_pureD (i := 5) (d := some 51) (v := ?v7_5b2) (fuel := 27) rfl (by kernel_rfl) (by kernel_rfl) (fun _ _ _ h => h) hD (Below.refl _ _) (.inl ⟨by kernel_rfl, ?y7_5b2⟩) ?n7_5b2
      case y7_5b2 => intro w' _; go_simp; with_reducible rfl
      clear hD; intro hD
      simp only [Act.put, sqA, sqB, sqC]
      refine wpAnyK_pureD (i := 8) (d := some 54) (v := ?v7_8b2) (fuel := 26) rfl (by kernel_rfl) (by kernel_rfl) (fun _ _ _ h => h) hD (Below.refl _ _) (.inl ⟨by kernel_rfl, ?y7_8b2⟩) ?n7_8b2
      case y7_8b2 => intro w' _; go_simp; with_reducible rfl
      clear hD; intro hD
      simp only [Act.put, sqA, sqB, sqC]
      refine wpAnyK_pureD (i := 12) (d := some 58) (v := ?v7_12b2) (fuel := 25) rfl (by kernel_rfl) (by kernel_rfl) (fun _ _ _ h => h) hD (Below.refl _ _) (.inl ⟨by kernel_rfl, ?y7_12b2⟩) ?n7_12b2
      case y7_12b2 => intro w' _; go_simp; with_reducible rfl
      clear hD; intro hD
      simp only [Act.put, sqA, sqB, sqC]
      refine wpAnyK_pureD (i := 13) (d := some 59) (v := ?v7_13b2) (fuel := 24) rfl (by kernel_rfl) (by kernel_rfl) (fun _ _ _ h => h) hD (Below.refl _ _) (.inl ⟨by kernel_rfl, ?y7_13b2⟩) ?n7_13b2
      case y7_13b2 => intro w' _; go_simp; with_reducible rfl
      clear hD; intro hD
      simp only [Act.put, sqA, sqB, sqC]
      refine wpAnyK_pureD (i := 14) (d := some 60) (v := ?v7_14b2) (fuel := 23) rfl (by kernel_rfl) (by kernel_rfl) (fun _ _ _ h => h) hD (Below.refl _ _) (.inl ⟨by kernel_rfl, ?y7_14b2⟩) ?n7_14b2
      case y7_14b2 => intro w' _; go_simp; with_reducible rfl
      clear hD; intro hD
      simp only [Act.put, sqA, sqB, sqC]
      refine wpAnyK_pureD (i := 15) (d := some 61) (v := ?v7_15b2) (fuel := 22) rfl (by kernel_rfl) (by kernel_rfl) (fun _ _ _ h => h) hD (Below.refl _ _) (.inl ⟨by kernel_rfl, ?y7_15b2⟩) ?n7_15b2
      case y7_15b2 => intro w' _; go_simp; with_reducible rfl
      clear hD; intro hD
      simp only [Act.put, sqA, sqB, sqC]
      refine wpAnyK_pureD (i := 16) (d := some 62) (v := ?v7_16b2) (fuel := 21) rfl (by kernel_rfl) (by kernel_rfl) (fun _ _ _ h => h) hD (Below.refl _ _) (.inl ⟨by kernel_rfl, ?y7_16b2⟩) ?n7_16b2
      case y7_16b2 => intro w' _; go_simp; with_reducible rfl
      clear hD; intro hD
      simp only [Act.put, sqA, sqB, sqC]
      refine wpAnyK_pureD (i := 17) (d := some 63) (v := ?v7_17b2) (fuel := 20) rfl (by kernel_rfl) (by kernel_rfl) (fun _ _ _ h => h) hD (Below.refl _ _) (.inl ⟨by kernel_rfl, ?y7_17b2⟩) ?n7_17b2
      case y7_17b2 => intro w' _; go_simp; with_reducible rfl
      clear hD; intro hD
      simp only [Act.put, sqA, sqB, sqC]
      refine wpAnyK_pureD (i := 18) (d := some 64) (v := ?v7_18b2) (fuel := 19) rfl (by kernel_rfl) (by kernel_rfl) (fun _ _ _ h => h) hD (Below.refl _ _) (.inl ⟨by kernel_rfl, ?y7_18b2⟩) ?n7_18b2
      case y7_18b2 => intro w' _; go_simp; with_reducible rfl
      clear hD; intro hD
      simp only [Act.put, sqA, sqB, sqC]
      refine wpAnyK_pureD (i := 19) (d := some 65) (v := ?v7_19b2) (fuel := 18) rfl (by kernel_rfl) (by kernel_rfl) (fun _ _ _ h => h) hD (Below.refl _ _) (.inl ⟨by kernel_rfl, ?y7_19b2⟩) ?n7_19b2
      case y7_19b2 => intro w' _; go_simp; with_reducible rfl
      clear hD; intro hD
      simp only [Act.put, sqA, sqB, sqC]
      refine wpAnyK_pureD (i := 21) (d := some 67) (v := ?v7_21b2) (fuel := 17) rfl (by kernel_rfl) (by kernel_rfl) (fun _ _ _ h => h) hD (Below.refl _ _) (.inl ⟨by kernel_rfl, ?y7_21b2⟩) ?n7_21b2
      case y7_21b2 => intro w' _; go_simp; with_reducible rfl
      clear hD; intro hD
      simp only [Act.put, sqA, sqB, sqC]
      refine wpAnyK_pureD (i := 22) (d := some 68) (v := ?v7_22b2) (fuel := 16) rfl (by kernel_rfl) (by kernel_rfl) (fun _ _ _ h => h) hD (Below.refl _ _) (.inl ⟨by kernel_rfl, ?y7_22b2⟩) ?n7_22b2
      case y7_22b2 => intro w' _; go_simp; with_reducible rfl
      clear hD; intro hD
      simp only [Act.put, sqA, sqB, sqC]
      refine wpAnyK_pureD (i := 23) (d := some 69) (v := ?v7_23b2) (fuel := 15) rfl (by kernel_rfl) (by kernel_rfl) (fun _ _ _ h => h) hD (Below.refl _ _) (.inl ⟨by kernel_rfl, ?y7_23b2⟩) ?n7_23b2
      case y7_23b2 => intro w' _; go_simp; with_reducible rfl
      clear hD; intro hD
      simp only [Act.put, sqA, sqB, sqC]
      refine wpAnyK_takeSD (i := 24) (d := some 70) (v := ?v7_24b2) (fuel := 14) rfl (by kernel_rfl) (by kernel_rfl) (by kernel_rfl) (fun _ _ _ h => h) hD (Below.refl _ _) (.inl ⟨by kernel_rfl, ?y7_24b2⟩) ?n7_24b2
      case y7_24b2 => intro w' hS'; have e0 := cell_kept hS' (Nat.le_refl _) c7; have e1 := cell_kept hS' (Nat.le_refl _) ck; have e2 := cell_kept hS' (Nat.le_refl _) cw; go_simp; with_reducible rfl
      clear hD; intro hD
      simp only [Act.put, sqA, sqB, sqC]
      refine wpAnyK_pureD (i := 26) (d := some 72) (v := ?v7_26b2) (fuel := 13) rfl (by kernel_rfl) (by kernel_rfl) (fun _ _ _ h => h) hD (Below.refl _ _) (.inl ⟨by kernel_rfl, ?y7_26b2⟩) ?n7_26b2
      case y7_26b2 => intro w' _; go_simp; with_reducible rfl
      clear hD; intro hD
      simp only [Act.put, sqA, sqB, sqC]
      refine wpAnyK_pureD (i := 27) (d := some 73) (v := ?v7_27b2) (fuel := 12) rfl (by kernel_rfl) (by kernel_rfl) (fun _ _ _ h => h) hD (Below.refl _ _) (.inl ⟨by kernel_rfl, ?y7_27b2⟩) ?n7_27b2
      case y7_27b2 => intro w' _; go_simp; with_reducible rfl
      clear hD; intro hD
      simp only [Act.put, sqA, sqB, sqC]
      refine wpAnyK_pureD (i := 28) (d := some 74) (v := ?v7_28b2) (fuel := 11) rfl (by kernel_rfl) (by kernel_rfl) (fun _ _ _ h => h) hD (Below.refl _ _) (.inl ⟨by kernel_rfl, ?y7_28b2⟩) ?n7_28b2
      case y7_28b2 => intro w' _; go_simp; with_reducible rfl
      clear hD; intro hD
      simp only [Act.put, sqA, sqB, sqC]
      refine wpAnyK_takeSD (i := 29) (d := some 75) (v := ?v7_29b2) (fuel := 10) rfl (by kernel_rfl) (by kernel_rfl) (by kernel_rfl) (fun _ _ _ h => h) hD (Below.refl _ _) (.inl ⟨by kernel_rfl, ?y7_29b2⟩) ?n7_29b2
      case y7_29b2 => intro w' hS'; have e0 := cell_kept hS' (Nat.le_refl _) c7; have e1 := cell_kept hS' (Nat.le_refl _) ck; have e2 := cell_kept hS' (Nat.le_refl _) cw; go_simp; with_reducible rfl
      clear hD; intro hD
      simp only [Act.put, sqA, sqB, sqC]
      refine wpAnyK_one (i := 4) (fuel := 9) (by kernel_rfl) rfl hD ?_
      clear hD; intro K4 hK4
      go_wp2_with fail
      refine (r05_right e 6 (by decide) (by decide) _).mono ?_
      rintro e' w1 ⟨rfl, hb⟩
      have HB4 := Lib.hid hb
      clear hb
      go_wp2
      refine hK4 _ _ (by exact HB4.out) ?_; clear hK4; intro hS_7_4 hD
      refine wpAnyK_one (i := 6) (fuel := 8) (by kernel_rfl) rfl hD ?_
      clear hD; intro K6 hK6
      go_wp2_with fail
      refine (r05_right e 11 (by decide) (by decide) _).mono ?_
      rintro e' w1 ⟨rfl, hb⟩
      have HB6 := Lib.hid hb
      clear hb
      go_wp2
      refine hK6 _ _ (by exact Below.trans hS_7_4 (Below.mono HB6.out (Below.size hS_7_4))) ?_; clear hK6; intro hS_7_6 hD
      refine wpAnyK_pureD (i := 7) (d := some 53) (v := ?v7_7b2) (fuel := 7) rfl (by kernel_rfl) (by kernel_rfl) (fun _ _ _ h => h) hD hS_7_6 (.inl ⟨by kernel_rfl, ?y7_7b2⟩) ?n7_7b2
      case y7_7b2 => intro w' _; go_simp; with_reducible rfl
      clear hD; intro hD
      simp only [Act.put, sqA, sqB, sqC]
      refine wpAnyK_one (i := 9) (fuel := 6) (by kernel_rfl) rfl hD ?_
      clear hD; intro K9 hK9
      go_wp2_with fail
      refine (r05_right e 25 (by decide) (by decide) _).mono ?_
      rintro e' w1 ⟨rfl, hb⟩
      have HB9 := Lib.hid hb
      clear hb
      go_wp2
      refine hK9 _ _ (by exact Below.trans hS_7_6 (Below.mono HB9.out (Below.size hS_7_6))) ?_; clear hK9; intro hS_7_9 hD
      refine wpAnyK_pureD (i := 10) (d := some 56) (v := ?v7_10b2) (fuel := 5) rfl (by kernel_rfl) (by kernel_rfl) (fun _ _ _ h => h) hD hS_7_9 (.inl ⟨by kernel_rfl, ?y7_10b2⟩) ?n7_10b2
      case y7_10b2 => intro w' _; go_simp; with_reducible rfl
      clear hD; intro hD
      simp only [Act.put, sqA, sqB, sqC]
      refine wpAnyK_pureD (i := 11) (d := some 57) (v := ?v7_11b2) (fuel := 4) rfl (by kernel_rfl) (by kernel_rfl) (fun _ _ _ h => h) hD hS_7_9 (.inl ⟨by kernel_rfl, ?y7_11b2⟩) ?n7_11b2
      case y7_11b2 => intro w' _; go_simp; with_reducible rfl
      clear hD; intro hD
      simp only [Act.put, sqA, sqB, sqC]
      refine wpAnyK_pureD (i := 20) (d := some 66) (v := ?v7_20b2) (fuel := 3) rfl (by kernel_rfl) (by kernel_rfl) (fun _ _ _ h => h) hD hS_7_9 (.inl ⟨by kernel_rfl, ?y7_20b2⟩) ?n7_20b2
      case y7_20b2 => intro w' _; go_simp; with_reducible rfl
      clear hD; intro hD
      simp only [Act.put, sqA, sqB, sqC]
      refine wpAnyK_pureD (i := 25) (d := some 71) (v := ?v7_25b2) (fuel := 2) rfl (by kernel_rfl) (by kernel_rfl) (fun _ _ _ h => h) hD hS_7_9 (.inl ⟨by kernel_rfl, ?y7_25b2⟩) ?n7_25b2
      case y7_25b2 => intro w' _; go_simp; with_reducible rfl
      clear hD; intro hD
      simp only [Act.put, sqA, sqB, sqC]
      refine wpAnyK_pureD (i := 30) (d := some 76) (v := ?v7_30b2) (fuel := 1) rfl (by kernel_rfl) (by kernel_rfl) (fun _ _ _ h => h) hD hS_7_9 (.inl ⟨by kernel_rfl, ?y7_30b2⟩) ?n7_30b2
      case y7_30b2 => intro w' _; go_simp; with_reducible rfl
      clear hD; intro hD
      simp only [Act.put, sqA, sqB, sqC]
      refine wpAnyK_one (i := 31) (fuel := 0) (by kernel_rfl) rfl hD ?_
      clear hD; intro K31 hK31
      go_wp2
      refine hK31 _ _ (by exact hS_7_9) ?_; clear hK31; intro hS_7_31 hD
      have HL := Lib.hid hS_7_31
      refine wpAnyK_done (by kernel_rfl) ?_ 0
      clear hD
      clear c7 ck cw
      rw [tv_val2]
      obtain ⟨T, hT⟩ : ∃ T, hh + (rr e 6 ^^^ rr e 11 ^^^ rr e 25) + (e &&& f ^^^ ~~~ e &&& g') + kk + ww = T := ⟨_, rfl⟩
      have HT := Lib.hid hT
      rw [hT]
      clear hT
      have HXL := Lib.hid (HXE.out.kept HL.out HXE.out.lt)
      have HBL := Lib.hid (below_up HBE.out (by rw [← hL]; exact HBE.out.size) HL.out)
      have HSL := Lib.hid (show L ≤ we.heap.size from by rw [← hL]; have := HBE.out.size; omega)
      have HSM := Lib.hid HL.out.size
      go_wp2_with fail
      refine (r05_right a 2 (by decide) (by decide) _).mono ?_
      rintro e' w5 ⟨rfl, hb5⟩
      go_wp2_with fail
      refine (r05_right a 13 (by decide) (by decide) _).mono ?_
      rintro e' w6 ⟨rfl, hb6⟩
      go_wp2_with fail
      refine (r05_right a 22 (by decide) (by decide) _).mono ?_
      rintro e' w7 ⟨rfl, hb7⟩
      have hb567 := (hb5.trans (hb6.mono hb5.size)).trans (hb7.mono (by have := hb5.size; have := hb6.size; omega))
      have HX7 := Lib.hid (HXL.out.kept hb567 HXL.out.lt)
      have HB7 := Lib.hid (below_up HBL.out (by have := HSL.out; have := HSM.out; omega) hb567)
      have HS7 := Lib.hid (show L ≤ w7.heap.size from by have := HSL.out; have := HSM.out; have := hb567.size; omega)
      clear hb5 hb6 hb7 hb567
      obtain ⟨_, _, _, c3, _, _, _, _⟩ := HX7.out.c8
      go_wp2
      rw [tu_val, mod_val]
      clear c3
      refine ⟨⟨k + 1, w7.heap.size, 8, by omega, rfl, by go_num, by have := HS7.out; omega, ?_, HB7.out.alloc HS7.out _⟩, by simp [RowKit.intOf]; omega⟩
      rw [rds_succ, HST.out, HKK.out, HWW.out]
      have := RowV8.new w7 (rd kk ww ⟨a, b', c, d, e, f, g', hh⟩)
      rw [← HT.out]
      exact this
    · have HK64 := Lib.hid (show k = 64 from by omega)
      have hge : ¬ ((k : Int) < 64) := by omega
      obtain ⟨X, hX⟩ : ∃ X, rds m S 64 = X := ⟨_, rfl⟩
      have HX3 := Lib.hid (show RowV8 wr g c2 (addP X S 0) from by
        have h := HX2.out
        rw [HK64.out, hX] at h
        exact h.congr fun j _ => by unfold addP; rw [if_neg (Nat.not_lt_zero _)])
      have HXY := Lib.hid (show X.add S = Y from by rw [← hX, ← HY.out]; rfl)
      have HV4 := Lib.hid (HV.out.kept HB3.out (by omega))
      have HV3' := Lib.hid (HV4.out.kept HBR.out (by omega))
      have HBX := Lib.hid (show Below H w wr from HB3.out.trans (HBR.out.mono (by omega)))
      clear hk hlt HX2 HK64 hX HBR HV4 HV3 HR3 HK3
      go_wp2
      go_loopw [17] (fun i wr => ∃ q : Nat, q ≤ 8 ∧ i = .int .i64 q ∧ RowV8 wr g c2 (addP X S q) ∧ Below H w wr) (fun i _ => 8 - (RowKit.intOf i).toNat)
      case atStart => exact ⟨0, by omega, rfl, HX3.out, HBX.out⟩
      case round =>
        obtain ⟨q, hq, rfl, hx, hb⟩ := hrel
        have HXQ := Lib.hid hx
        have HBQ := Lib.hid hb
        clear hx hb
        by_cases hq8 : q < 8
        · have hqi : (q : Int) < 8 := by omega
          have c0 := HXQ.out.drew.cell hq8
          have c1 := (HV.out.kept HBQ.out (by rw [← hH] at hbH; omega)).drew.cell hq8
          have hf := HXQ.out.drew.free q
          obtain ⟨x, hx⟩ : ∃ x, addP X S q q = x := ⟨_, rfl⟩
          obtain ⟨y, hy⟩ : ∃ x, S.at q = x := ⟨_, rfl⟩
          have HE := Lib.hid (show addP X S (q + 1) q = x + y from by rw [← hx, ← hy]; unfold addP; rw [if_pos (by omega), if_neg (by omega)])
          rw [hx] at c0
          rw [hy] at c1
          clear hx hy
          obtain ⟨wd, hwd⟩ : ∃ wd, wr.drew = wd := ⟨_, rfl⟩
          rw [hwd] at c0 c1 hf
          go_wp2
          refine wp_region_K 10 (Eq wd) (by kernel_rfl) ?_
          intro hD
          rw [hwd]
          refine wpAnyK_pureD (i := 0) (d := some 116) (v := ?v13_0b3) (fuel := 10) rfl (by kernel_rfl) (by kernel_rfl) (fun _ _ _ h => h) hD rfl (.inl ⟨by kernel_rfl, ?y13_0b3⟩) ?n13_0b3
          case y13_0b3 => intro w' _; go_simp; with_reducible rfl
          clear hD; intro hD
          simp only [Act.put, sqA, sqB, sqC]
          refine wpAnyK_pureD (i := 1) (d := some 117) (v := ?v13_1b3) (fuel := 9) rfl (by kernel_rfl) (by kernel_rfl) (fun _ _ _ h => h) hD rfl (.inl ⟨by kernel_rfl, ?y13_1b3⟩) ?n13_1b3
          case y13_1b3 => intro w' _; go_simp; with_reducible rfl
          clear hD; intro hD
          simp only [Act.put, sqA, sqB, sqC]
          refine wpAnyK_pureD (i := 2) (d := some 118) (v := ?v13_2b3) (fuel := 8) rfl (by kernel_rfl) (by kernel_rfl) (fun _ _ _ h => h) hD rfl (.inl ⟨by kernel_rfl, ?y13_2b3⟩) ?n13_2b3
          case y13_2b3 => intro w' _; go_simp; with_reducible rfl
          clear hD; intro hD
          simp only [Act.put, sqA, sqB, sqC]
          refine wpAnyK_takeD (i := 3) (d := some 119) (v := ?v13_3b3) (fuel := 7) rfl (by kernel_rfl) (by kernel_rfl) (by kernel_rfl) (fun _ _ _ h => h) hD rfl (.inl ⟨by kernel_rfl, ?y13_3b3⟩) ?n13_3b3
          case y13_3b3 => intro w' hS'; have e0 := (hS' ▸ c0); have e1 := (hS' ▸ c1); go_simp; with_reducible rfl
          clear hD; intro hD
          simp only [Act.put, sqA, sqB, sqC]
          refine wpAnyK_pureD (i := 4) (d := some 120) (v := ?v13_4b3) (fuel := 6) rfl (by kernel_rfl) (by kernel_rfl) (fun _ _ _ h => h) hD rfl (.inl ⟨by kernel_rfl, ?y13_4b3⟩) ?n13_4b3
          case y13_4b3 => intro w' _; go_simp; with_reducible rfl
          clear hD; intro hD
          simp only [Act.put, sqA, sqB, sqC]
          refine wpAnyK_pureD (i := 5) (d := some 121) (v := ?v13_5b3) (fuel := 5) rfl (by kernel_rfl) (by kernel_rfl) (fun _ _ _ h => h) hD rfl (.inl ⟨by kernel_rfl, ?y13_5b3⟩) ?n13_5b3
          case y13_5b3 => intro w' _; go_simp; with_reducible rfl
          clear hD; intro hD
          simp only [Act.put, sqA, sqB, sqC]
          refine wpAnyK_pureD (i := 6) (d := some 122) (v := ?v13_6b3) (fuel := 4) rfl (by kernel_rfl) (by kernel_rfl) (fun _ _ _ h => h) hD rfl (.inl ⟨by kernel_rfl, ?y13_6b3⟩) ?n13_6b3
          case y13_6b3 => intro w' _; go_simp; with_reducible rfl
          clear hD; intro hD
          simp only [Act.put, sqA, sqB, sqC]
          refine wpAnyK_takeD (i := 7) (d := some 123) (v := ?v13_7b3) (fuel := 3) rfl (by kernel_rfl) (by kernel_rfl) (by kernel_rfl) (fun _ _ _ h => h) hD rfl (.inl ⟨by kernel_rfl, ?y13_7b3⟩) ?n13_7b3
          case y13_7b3 => intro w' hS'; have e0 := (hS' ▸ c0); have e1 := (hS' ▸ c1); go_simp; with_reducible rfl
          clear hD; intro hD
          simp only [Act.put, sqA, sqB, sqC]
          refine wpAnyK_pureD (i := 8) (d := some 124) (v := ?v13_8b3) (fuel := 2) rfl (by kernel_rfl) (by kernel_rfl) (fun _ _ _ h => h) hD rfl (.inl ⟨by kernel_rfl, ?y13_8b3⟩) ?n13_8b3
          case y13_8b3 => intro w' _; go_simp; with_reducible rfl
          clear hD; intro hD
          simp only [Act.put, sqA, sqB, sqC]
          refine wpAnyK_pureD (i := 9) (d := some 125) (v := ?v13_9b3) (fuel := 1) rfl (by kernel_rfl) (by kernel_rfl) (fun _ _ _ h => h) hD rfl (.inl ⟨by kernel_rfl, ?y13_9b3⟩) ?n13_9b3
          case y13_9b3 => intro w' _; go_simp; with_reducible rfl
          clear hD; intro hD
          simp only [Act.put, sqA, sqB, sqC]
          refine wpAnyK_oneT (i := 10) (fuel := 0) (by kernel_rfl) rfl hD (by kernel_rfl) ?_
          clear hD; intro K10 hK10
          go_wp2
          refine hK10 _ _ ?_; clear hK10; intro hD
          refine wpAnyK_done (by kernel_rfl) ?_ 0
          clear hD
          clear c0 c1 hf
          rw [mod_val]
          go_wp2
          go_roundw
          case rel =>
            refine ⟨q + 1, by omega, by go_num, ?_, ?_⟩
            · rw [← hwd]
              refine (HXQ.out.drew.set q (x + y)).congr fun i hi => ?_
              by_cases e : i = q
              · rw [if_pos e, e, HE.out]
              · rw [if_neg e]; unfold addP
                by_cases h : i < q
                · rw [if_pos h, if_pos (by omega)]
                · rw [if_neg h, if_neg (by omega)]
            · rw [← hwd]; exact HBQ.out.drew.setCell (by have := HG.out; exact this) _
          case measure => simp [RowKit.intOf]; omega
        · have HQ := Lib.hid (show q = 8 from by omega)
          have hqe : ¬ ((q : Int) < 8) := by omega
          have HXE := Lib.hid (show RowV8 wr g c2 Y.at from by
            have h := HXQ.out
            rw [HQ.out] at h
            rw [← HXY.out]
            exact h.congr fun j hj => addP_all X S j hj)
          clear hq hq8 HXQ HQ
          go_wp2
          go_ret
          exact ⟨g, c2, rfl, HXE.out, HG.out, HBQ.out⟩
end Go.Proofs.YtndmjfkmnjejkaaGreatDoor

/- Walk: the reference's compress. -/
import Derived.Test.YtndmjfkmnjejkaaGreatDoorQShH
import Derived.Test.YtndmjfkmnjejkaaGreatDoorQReg
import Derived.Laws.Concat
set_option linter.unusedVariables false
set_option linter.unusedSimpArgs false
namespace Go.Proofs.YtndmjfkmnjejkaaGreatDoor
open Go.RowKit Go.Lib
def RowV8 (w : World) (g c : Nat) (f : Nat → BitVec 32) : Prop := ∃ cur : Array Value, w.heap[g]? = some (.cells cur 216 (0, 0)) ∧ cur.size = c ∧ 8 ≤ c ∧ c ≤ 9223372036854775807 ∧ ∀ j, j < 8 → cur[j]? = some (.int .u32 (wi (f j)))
theorem RowV8.cell {w : World} {g c : Nat} {f : Nat → BitVec 32} (h : RowV8 w g c f) {k : Nat} (hk : k < 8) : w.cell? ⟨g, k, none⟩ = some (.int .u32 (wi (f k))) := by
  obtain ⟨cur, h1, _, _, _, h2⟩ := h
  rw [Lib.cell_of_heap h1]; exact h2 k hk
theorem RowV8.free {w : World} {g c : Nat} {f : Nat → BitVec 32} (h : RowV8 w g c f) (k : Nat) : w.frozen? ⟨g, k, none⟩ = false := by
  obtain ⟨cur, h1, _⟩ := h
  exact Lib.frozen_of_heap h1 k
theorem RowV8.kept {w w' : World} {K g c : Nat} {f : Nat → BitVec 32} (h : RowV8 w g c f) (hb : Below K w w') (hB : g < K) : RowV8 w' g c f := by
  obtain ⟨cur, h1, h2⟩ := h
  exact ⟨cur, (hb.block g hB).trans h1, h2⟩
theorem RowV8.drew {w : World} {g c : Nat} {f : Nat → BitVec 32} (h : RowV8 w g c f) : RowV8 w.drew g c f := h
theorem RowV8.lt {w : World} {g c : Nat} {f : Nat → BitVec 32} (h : RowV8 w g c f) : g < w.heap.size := by
  obtain ⟨cur, h1, _⟩ := h
  exact block_lt h1
theorem RowV8.congr {w : World} {g c : Nat} {f f' : Nat → BitVec 32} (h : RowV8 w g c f) (hf : ∀ j, j < 8 → f j = f' j) : RowV8 w g c f' := by
  obtain ⟨cur, h1, h2, h3, h4, h5⟩ := h
  exact ⟨cur, h1, h2, h3, h4, fun j hj => by rw [h5 j hj, hf j hj]⟩
theorem RowV8.set {w : World} {g c : Nat} {f : Nat → BitVec 32} (h : RowV8 w g c f) (k : Nat) (x : BitVec 32) : RowV8 (w.setCell ⟨g, k, none⟩ (.int .u32 (wi x))) g c (fun j => if j = k then x else f j) := by
  obtain ⟨cur, h1, h2, h3, h4, h5⟩ := h
  refine ⟨_, block_setCell h1 _, by rw [Array.size_setIfInBounds, h2], h3, h4, fun j hj => ?_⟩
  rw [Array.getElem?_setIfInBounds]
  simp only []
  by_cases e : k = j
  · subst e; rw [if_pos rfl, if_pos (by omega), if_pos rfl]
  · rw [if_neg e, if_neg (Ne.symm e)]; exact h5 j hj
theorem RowV8.of {w : World} {g : Nat} {f : Nat → BitVec 32} (h : RowW w g 8 216 f) : RowV8 w g 8 f := ⟨_, h, wa_size _ _, Nat.le_refl _, by omega, fun j hj => wa_get f hj⟩
theorem RowV8.c8 {w : World} {B c' : Nat} {a b c d e f g h : BitVec 32} (H : RowV8 w B c' (W8.at ⟨a, b, c, d, e, f, g, h⟩)) : w.cell? ⟨B, 0, none⟩ = some (.int .u32 (wi a)) ∧ w.cell? ⟨B, 1, none⟩ = some (.int .u32 (wi b)) ∧ w.cell? ⟨B, 2, none⟩ = some (.int .u32 (wi c)) ∧ w.cell? ⟨B, 3, none⟩ = some (.int .u32 (wi d)) ∧ w.cell? ⟨B, 4, none⟩ = some (.int .u32 (wi e)) ∧ w.cell? ⟨B, 5, none⟩ = some (.int .u32 (wi f)) ∧ w.cell? ⟨B, 6, none⟩ = some (.int .u32 (wi g)) ∧ w.cell? ⟨B, 7, none⟩ = some (.int .u32 (wi h)) :=
  ⟨H.cell (k := 0) (by decide), H.cell (k := 1) (by decide), H.cell (k := 2) (by decide), H.cell (k := 3) (by decide), H.cell (k := 4) (by decide), H.cell (k := 5) (by decide), H.cell (k := 6) (by decide), H.cell (k := 7) (by decide)⟩
theorem wpList_append_state (w0 : World) {ops : Array Oper} {rest : List Oper} {o : Oper} {a : Act} {Q : Exit → Act → World → Prop} (hg : o.guard = none) (s x : Operand) (hop : o.op = Op.call { callee := Callee.builtin Builtin.append, args := #[s, x], argTypes := #[173, 173] })
    (hs : a.eval s = .slice (some ⟨w0.heap.size, 0, none⟩) 0 0) (b c : Nat) (S : W8) (hx : a.eval x = .slice (some ⟨b, 0, none⟩) 8 c) (hv : RowV8 w0 b c S.at)
    (hK : ∀ g c' w', RowV8 w' g c' S.at → w0.heap.size ≤ g → Below w0.heap.size w0 w' → wpList Tryz.prog ops Q rest (a.put o.dst (.slice (some ⟨g, 0, none⟩) 8 c')) w') : wpList Tryz.prog ops Q (o :: rest) a (w0.alloc (.cells #[] 216)) := by
  obtain ⟨i0, hi, hz0, hz1, hz2⟩ := info_parts word_info
  have hml : maxLen = 9223372036854775807 := rfl
  refine wpList_append_lies (w0.alloc (.cells #[] 216)) hg s x 173 hop w0.heap.size 216 i0 (.int .u32 0) 1 4 Tryz.underlying173 hi hz0 hz1 hz2 rfl (by decide) _ 0 [] hs (World.ownsRow_made w0 #[] 0 (Nat.le_refl _) (by omega) rfl) ⟨b, 0, none⟩ 8 c S.arr.toList hx rfl (fun j u hj => ?_) (by have := W8.arr_one S; rw [Array.all_eq_true'] at this; intro u hu; exact this u (by simpa using hu)) (by decide) (by omega) (by omega) (by simp) _ rfl (fun g cap w' h1 h2 h3 h4 => hK g cap w' ?_ ?_ ?_)
  · have hj8 : j < 8 := (List.getElem?_eq_some_iff.1 hj).1
    rw [Addr.add_lit, Nat.zero_add]
    have := (hv.kept ((Below.refl _ _).alloc (Nat.le_refl _) (.cells #[] 216)) hv.lt).cell hj8
    rw [this, ← hj]
    have e : S.arr.toList[j]? = (wa 8 S.at)[j]? := by rw [← W8.arr_wa]; simp
    rw [e, wa_get _ hj8]
  · rcases h1.2 with ⟨h, _⟩ | ⟨g', cap', cur, hv', hb', hg', q1, q2, q3, q4⟩
    · cases h
    · cases hv'
      refine ⟨cur, hg', by omega, by omega, by omega, fun j hj => ?_⟩
      have := congrArg (fun l => l[j]?) q4
      simp only [List.nil_append] at this
      rw [List.getElem?_take, if_pos (by omega), Array.getElem?_toList] at this
      rw [this]
      have e : S.arr.toList[j]? = (wa 8 S.at)[j]? := by rw [← W8.arr_wa]; simp
      rw [e, wa_get _ hj]
  · exact (h1.lt g rfl).1
  · exact ((Below.refl _ _).alloc (Nat.le_refl _) _).trans ⟨h2.os, h2.tape, h2.output, h2.size, fun k hk => h2.block k (by have := World.size_alloc w0 (.cells #[] 216); omega) (fun e => by have : k = w0.heap.size := Option.some.inj e; omega)⟩
theorem tv_val2 (e f g h k w : BitVec 32) : ((((wi h + bits .xor .u32 (bits .xor .u32 (wi (rr e 6)) (wi (rr e 11))) (wi (rr e 25))) % 4294967296 + bits .xor .u32 (bits .and .u32 (wi e) (wi f)) (bits .and .u32 (bits .xor .u32 IntKind.u32.max (wi e)) (wi g))) % 4294967296 + wi k) % 4294967296 + wi w) % 4294967296 =
    wi (h + (rr e 6 ^^^ rr e 11 ^^^ rr e 25) + (e &&& f ^^^ ~~~ e &&& g) + k + w) := by
  rw [u32_max, wi_not, wi_xor, wi_xor, wi_and, wi_and, wi_xor, mod_val, mod_val, mod_val, mod_val]
theorem tu_val (t a b c : BitVec 32) : (wi t + (bits .xor .u32 (bits .xor .u32 (wi (rr a 2)) (wi (rr a 13))) (wi (rr a 22)) + bits .xor .u32 (bits .xor .u32 (bits .and .u32 (wi a) (wi b)) (bits .and .u32 (wi a) (wi c))) (bits .and .u32 (wi b) (wi c)))) % 4294967296 =
    wi (t + ((rr a 2 ^^^ rr a 13 ^^^ rr a 22) + (a &&& b ^^^ a &&& c ^^^ b &&& c))) := by
  rw [← mod_val, ← uv_val]; omega
theorem RowV8.new (w : World) (S : W8) : RowV8 (w.alloc (.cells S.arr 216)) w.heap.size 8 S.at := RowV8.of (by unfold RowW; rw [← W8.arr_wa]; exact heap_alloc_new _ _)
theorem below_up {a w w' : World} {B : Nat} (h : Below B a w) (hB : B ≤ w.heap.size) (hb : Below w.heap.size w w') : Below B a w' := h.trans (hb.mono hB)
set_option maxRecDepth 100000 in
set_option maxHeartbeats 2000000 in
theorem r05_compress (S : W8) (s : ByteArray) (hs : s.size = 64) (b c : Nat) (w : World) (hv : RowV8 w b c S.at) : Calls Tryz.prog 232 #[.slice (some ⟨b, 0, none⟩) 8 c, .string s] w fun e w' => ∃ g c', e = .returned (.slice (some ⟨g, 0, none⟩) 8 c') ∧ RowV8 w' g c' (blk S s.data.toList).at ∧ w.heap.size ≤ g ∧ Below w.heap.size w w' := by
  have HV := Lib.hid hv
  have HS := Lib.hid hs
  clear hv hs
  obtain ⟨Y, hY⟩ : ∃ Y, blk S s.data.toList = Y := ⟨_, rfl⟩
  have HY := Lib.hid hY
  rw [hY]
  clear hY
  go_enter Tryz.func232, Tryz.ntmps232
  go_wp2_with fail
  refine (r05_schedule s HS.out w).mono ?_
  rintro e w1 ⟨rfl, hr1, hb1⟩
  have HR1 := Lib.hid hr1
  have HB1 := Lib.hid hb1
  clear hr1 hb1
  obtain ⟨m, hm⟩ : ∃ m, s.data.toList = m := ⟨_, rfl⟩
  rw [hm] at HR1 HY
  clear hm
  go_wp2_with fail
  refine (r05_constants w1).mono ?_
  rintro e w2 ⟨rfl, hr2, hb2⟩
  have HK2 := Lib.hid hr2
  have HR2 := Lib.hid (HR1.out.kept hb2 HR1.out.lt)
  have HB2 := Lib.hid (below_up HB1.out HB1.out.size hb2)
  have HS2 := Lib.hid hb2.size
  have HV2 := Lib.hid (HV.out.kept HB2.out HV.out.lt)
  obtain ⟨H, hH⟩ : ∃ H, w.heap.size = H := ⟨_, rfl⟩
  obtain ⟨H1, hH1⟩ : ∃ H, w1.heap.size = H := ⟨_, rfl⟩
  have hH01 : H < H1 := by rw [← hH, ← hH1]; exact HR1.out.lt
  have hbH : b < H := by rw [← hH]; exact HV.out.lt
  rw [hH] at HR2 HB2 ⊢
  rw [hH1] at HK2 ⊢
  clear hb2 HB1 HR1 HS2
  go_wp2_with (at_builtin; refine wpList_append_state w2 rfl (.tmp 21) (.tmp 22) rfl rfl b c S rfl HV2.out ?_)
  intro g c' w3 hv3 hg3 hb3
  have hsz2 : H1 < w2.heap.size := by rw [← hH1] at HK2 ⊢; exact HK2.out.lt
  have HV3 := Lib.hid hv3
  have HB3 := Lib.hid (HB2.out.trans (hb3.mono (by omega)))
  have HR3 := Lib.hid (HR2.out.kept hb3 (by omega))
  have HK3 := Lib.hid (HK2.out.kept hb3 hsz2)
  have HG3 := Lib.hid (show H ≤ g from by omega)
  obtain ⟨L, hL⟩ : ∃ L, w3.heap.size = L := ⟨_, rfl⟩
  have hH1L : H1 < L := by rw [← hL]; have := hb3.size; omega
  clear hv3 hg3 hb3 HR2 HK2 HB2 HV2 hsz2
  go_wp2
  go_loopw [7, 8] (fun v i wr => ∃ k g c : Nat, k ≤ 64 ∧ v = .slice (some ⟨g, 0, none⟩) 8 c ∧ i = .int .i64 k ∧ H ≤ g ∧ RowV8 wr g c (rds m S k).at ∧ Below L w3 wr) (fun _ i _ => 64 - (RowKit.intOf i).toNat)
  case atStart => exact ⟨0, g, c', by omega, rfl, rfl, HG3.out, by rw [rds_zero]; exact HV3.out, Below.refl _ _⟩
  case round =>
    obtain ⟨k, g, c2, hk, rfl, rfl, hg, hx, hb⟩ := hrel
    have HX2 := Lib.hid hx
    have HBR := Lib.hid hb
    have HG := Lib.hid hg
    clear hx hb hg
    by_cases hlt : k < 64
    · have hlti : (k : Int) < 64 := by omega
      obtain ⟨⟨a, b', c, d, e, f, g', hh⟩, hst⟩ : ∃ x, rds m S k = x := ⟨_, rfl⟩
      have HST := Lib.hid hst
      rw [hst] at HX2
      clear hst
      obtain ⟨c0, c1, c2', c3, c4, c5, c6, c7⟩ := HX2.out.drew.c8
      clear c3 c7
      have HKW := Lib.hid (HK3.out.kept HBR.out hH1L)
      have HWW := Lib.hid (HR3.out.kept HBR.out (by omega))
      obtain ⟨wd, hwd⟩ : ∃ wd, wr.drew = wd := ⟨_, rfl⟩
      have HXD := Lib.hid (show RowV8 wd g c2 (W8.at ⟨a, b', c, d, e, f, g', hh⟩) from by rw [← hwd]; exact HX2.out)
      have HKD := Lib.hid (show RowW wd H1 64 216 kv from by rw [← hwd]; exact HKW.out.drew)
      have HWD := Lib.hid (show RowW wd H 64 216 (wv m) from by rw [← hwd]; exact HWW.out.drew)
      have HBD := Lib.hid (show Below L w3 wd from by rw [← hwd]; exact HBR.out.drew)
      rw [hwd] at c0 c1 c2' c4 c5 c6
      go_wp2
      refine wp_region_K 24 (Eq wd) (by kernel_rfl) ?_
      intro hD
      rw [hwd]
      have KK1 := Lib.hid (fun w' (hS' : (Eq wd) w') => And.intro ((hS' ▸ c0)) (And.intro ((hS' ▸ c1)) (And.intro ((hS' ▸ c2')) (And.intro ((hS' ▸ c4)) (And.intro ((hS' ▸ c5)) ((hS' ▸ c6)))))))
      refine rP 0 28 23 rfl hD rfl ?_; clear hD; intro hD; simp only [Act.put, sqA, sqB, sqC]
      refine rP 1 29 22 rfl hD rfl ?_; clear hD; intro hD; simp only [Act.put, sqA, sqB, sqC]
      refine rT 2 30 21 rfl hD rfl (by intro w' hS'; obtain ⟨e0, e1, e2, e3, e4, e5⟩ := KK1.out w' hS'; go_simp; with_reducible rfl) ?_; clear hD; intro hD; simp only [Act.put, sqA, sqB, sqC]
      refine rP 3 31 20 rfl hD rfl ?_; clear hD; intro hD; simp only [Act.put, sqA, sqB, sqC]
      refine rP 4 32 19 rfl hD rfl ?_; clear hD; intro hD; simp only [Act.put, sqA, sqB, sqC]
      refine rT 5 33 18 rfl hD rfl (by intro w' hS'; obtain ⟨e0, e1, e2, e3, e4, e5⟩ := KK1.out w' hS'; go_simp; with_reducible rfl) ?_; clear hD; intro hD; simp only [Act.put, sqA, sqB, sqC]
      refine rP 6 34 17 rfl hD rfl ?_; clear hD; intro hD; simp only [Act.put, sqA, sqB, sqC]
      refine rP 7 35 16 rfl hD rfl ?_; clear hD; intro hD; simp only [Act.put, sqA, sqB, sqC]
      refine rT 8 36 15 rfl hD rfl (by intro w' hS'; obtain ⟨e0, e1, e2, e3, e4, e5⟩ := KK1.out w' hS'; go_simp; with_reducible rfl) ?_; clear hD; intro hD; simp only [Act.put, sqA, sqB, sqC]
      refine rP 9 37 14 rfl hD rfl ?_; clear hD; intro hD; simp only [Act.put, sqA, sqB, sqC]
      refine rP 10 38 13 rfl hD rfl ?_; clear hD; intro hD; simp only [Act.put, sqA, sqB, sqC]
      refine rT 11 39 12 rfl hD rfl (by intro w' hS'; obtain ⟨e0, e1, e2, e3, e4, e5⟩ := KK1.out w' hS'; go_simp; with_reducible rfl) ?_; clear hD; intro hD; simp only [Act.put, sqA, sqB, sqC]
      refine rP 12 40 11 rfl hD rfl ?_; clear hD; intro hD; simp only [Act.put, sqA, sqB, sqC]
      refine rP 13 41 10 rfl hD rfl ?_; clear hD; intro hD; simp only [Act.put, sqA, sqB, sqC]
      refine rT 14 42 9 rfl hD rfl (by intro w' hS'; obtain ⟨e0, e1, e2, e3, e4, e5⟩ := KK1.out w' hS'; go_simp; with_reducible rfl) ?_; clear hD; intro hD; simp only [Act.put, sqA, sqB, sqC]
      refine rP 15 43 8 rfl hD rfl ?_; clear hD; intro hD; simp only [Act.put, sqA, sqB, sqC]
      refine rP 16 44 7 rfl hD rfl ?_; clear hD; intro hD; simp only [Act.put, sqA, sqB, sqC]
      refine rT 17 45 6 rfl hD rfl (by intro w' hS'; obtain ⟨e0, e1, e2, e3, e4, e5⟩ := KK1.out w' hS'; go_simp; with_reducible rfl) ?_; clear hD; intro hD; simp only [Act.put, sqA, sqB, sqC]
      refine rO 18 5 rfl hD ?_; clear hD; intro K18 hK18
      go_wp2
      refine hK18 _ _ (by rfl) ?_; clear hK18; intro hS_6_18 hD
      refine rO 19 4 rfl hD ?_; clear hD; intro K19 hK19
      go_wp2
      refine hK19 _ _ (by rfl) ?_; clear hK19; intro hS_6_19 hD
      refine rO 20 3 rfl hD ?_; clear hD; intro K20 hK20
      go_wp2
      refine hK20 _ _ (by rfl) ?_; clear hK20; intro hS_6_20 hD
      refine rO 21 2 rfl hD ?_; clear hD; intro K21 hK21
      go_wp2
      refine hK21 _ _ (by rfl) ?_; clear hK21; intro hS_6_21 hD
      refine rO 22 1 rfl hD ?_; clear hD; intro K22 hK22
      go_wp2
      refine hK22 _ _ (by rfl) ?_; clear hK22; intro hS_6_22 hD
      refine rO 23 0 rfl hD ?_; clear hD; intro K23 hK23
      go_wp2
      refine hK23 _ _ (by rfl) ?_; clear hK23; intro hS_6_23 hD
      refine wpAnyK_done (by kernel_rfl) ?_ 0
      clear hD
      clear c0 c1 c2' c4 c5 c6 hwd HX2 HKW HWW HBR
      obtain ⟨we, hwe⟩ : ∃ we, wd.drew = we := ⟨_, rfl⟩
      have HXE := Lib.hid (show RowV8 we g c2 (W8.at ⟨a, b', c, d, e, f, g', hh⟩) from by rw [← hwe]; exact HXD.out)
      obtain ⟨_, _, _, _, _, _, _, c7⟩ := HXE.out.c8
      have ck := (show RowW we H1 64 216 kv from by rw [← hwe]; exact HKD.out).cell hlt
      have cw := (show RowW we H 64 216 (wv m) from by rw [← hwe]; exact HWD.out).cell hlt
      obtain ⟨kk, hkk⟩ : ∃ x, kv k = x := ⟨_, rfl⟩
      obtain ⟨ww, hww⟩ : ∃ x, wv m k = x := ⟨_, rfl⟩
      rw [hkk] at ck
      rw [hww] at cw
      have HKK := Lib.hid hkk
      have HWW := Lib.hid hww
      clear hkk hww
      have HBE := Lib.hid (show Below L w3 we from by rw [← hwe]; exact HBD.out.drew)
      go_wp2
      refine wp_region_K 32 (Below (we).heap.size (we)) (by kernel_rfl) ?_
      intro hD
      rw [hwe]
      refine rP 0 46 31 rfl hD (Below.refl _ _) ?_; clear hD; intro hD; simp only [Act.put, sqA, sqB, sqC]
      refine rP 1 47 30 rfl hD (Below.refl _ _) ?_; clear hD; intro hD; simp only [Act.put, sqA, sqB, sqC]
      refine rT 2 48 29 rfl hD (Below.refl _ _) (by intro w' hS'; have e0 := kC hS' c7; have e1 := kC hS' ck; have e2 := kC hS' cw; go_simp; with_reducible rfl) ?_; clear hD; intro hD; simp only [Act.put, sqA, sqB, sqC]
      refine rP 3 49 28 rfl hD (Below.refl _ _) ?_; clear hD; intro hD; simp only [Act.put, sqA, sqB, sqC]
      refine rP 5 51 27 rfl hD (Below.refl _ _) ?_; clear hD; intro hD; simp only [Act.put, sqA, sqB, sqC]
      refine rP 8 54 26 rfl hD (Below.refl _ _) ?_; clear hD; intro hD; simp only [Act.put, sqA, sqB, sqC]
      refine rP 12 58 25 rfl hD (Below.refl _ _) ?_; clear hD; intro hD; simp only [Act.put, sqA, sqB, sqC]
      refine rP 13 59 24 rfl hD (Below.refl _ _) ?_; clear hD; intro hD; simp only [Act.put, sqA, sqB, sqC]
      refine rP 14 60 23 rfl hD (Below.refl _ _) ?_; clear hD; intro hD; simp only [Act.put, sqA, sqB, sqC]
      refine rP 15 61 22 rfl hD (Below.refl _ _) ?_; clear hD; intro hD; simp only [Act.put, sqA, sqB, sqC]
      refine rP 16 62 21 rfl hD (Below.refl _ _) ?_; clear hD; intro hD; simp only [Act.put, sqA, sqB, sqC]
      refine rP 17 63 20 rfl hD (Below.refl _ _) ?_; clear hD; intro hD; simp only [Act.put, sqA, sqB, sqC]
      refine rP 18 64 19 rfl hD (Below.refl _ _) ?_; clear hD; intro hD; simp only [Act.put, sqA, sqB, sqC]
      refine rP 19 65 18 rfl hD (Below.refl _ _) ?_; clear hD; intro hD; simp only [Act.put, sqA, sqB, sqC]
      refine rP 21 67 17 rfl hD (Below.refl _ _) ?_; clear hD; intro hD; simp only [Act.put, sqA, sqB, sqC]
      refine rP 22 68 16 rfl hD (Below.refl _ _) ?_; clear hD; intro hD; simp only [Act.put, sqA, sqB, sqC]
      refine rP 23 69 15 rfl hD (Below.refl _ _) ?_; clear hD; intro hD; simp only [Act.put, sqA, sqB, sqC]
      refine rT 24 70 14 rfl hD (Below.refl _ _) (by intro w' hS'; have e0 := kC hS' c7; have e1 := kC hS' ck; have e2 := kC hS' cw; go_simp; with_reducible rfl) ?_; clear hD; intro hD; simp only [Act.put, sqA, sqB, sqC]
      refine rP 26 72 13 rfl hD (Below.refl _ _) ?_; clear hD; intro hD; simp only [Act.put, sqA, sqB, sqC]
      refine rP 27 73 12 rfl hD (Below.refl _ _) ?_; clear hD; intro hD; simp only [Act.put, sqA, sqB, sqC]
      refine rP 28 74 11 rfl hD (Below.refl _ _) ?_; clear hD; intro hD; simp only [Act.put, sqA, sqB, sqC]
      refine rT 29 75 10 rfl hD (Below.refl _ _) (by intro w' hS'; have e0 := kC hS' c7; have e1 := kC hS' ck; have e2 := kC hS' cw; go_simp; with_reducible rfl) ?_; clear hD; intro hD; simp only [Act.put, sqA, sqB, sqC]
      refine rO 4 9 rfl hD ?_; clear hD; intro K4 hK4
      go_wp2_with fail
      refine (r05_right e 6 (by decide) (by decide) _).mono ?_
      rintro e' w1 ⟨rfl, hb⟩
      have HB4 := Lib.hid hb
      clear hb
      go_wp2
      refine hK4 _ _ (by exact HB4.out) ?_; clear hK4; intro hS_7_4 hD
      refine rO 6 8 rfl hD ?_; clear hD; intro K6 hK6
      go_wp2_with fail
      refine (r05_right e 11 (by decide) (by decide) _).mono ?_
      rintro e' w1 ⟨rfl, hb⟩
      have HB6 := Lib.hid hb
      clear hb
      go_wp2
      refine hK6 _ _ (by exact Below.trans hS_7_4 (Below.mono HB6.out (Below.size hS_7_4))) ?_; clear hK6; intro hS_7_6 hD
      refine rP 7 53 7 rfl hD hS_7_6 ?_; clear hD; intro hD; simp only [Act.put, sqA, sqB, sqC]
      refine rO 9 6 rfl hD ?_; clear hD; intro K9 hK9
      go_wp2_with fail
      refine (r05_right e 25 (by decide) (by decide) _).mono ?_
      rintro e' w1 ⟨rfl, hb⟩
      have HB9 := Lib.hid hb
      clear hb
      go_wp2
      refine hK9 _ _ (by exact Below.trans hS_7_6 (Below.mono HB9.out (Below.size hS_7_6))) ?_; clear hK9; intro hS_7_9 hD
      refine rP 10 56 5 rfl hD hS_7_9 ?_; clear hD; intro hD; simp only [Act.put, sqA, sqB, sqC]
      refine rP 11 57 4 rfl hD hS_7_9 ?_; clear hD; intro hD; simp only [Act.put, sqA, sqB, sqC]
      refine rP 20 66 3 rfl hD hS_7_9 ?_; clear hD; intro hD; simp only [Act.put, sqA, sqB, sqC]
      refine rP 25 71 2 rfl hD hS_7_9 ?_; clear hD; intro hD; simp only [Act.put, sqA, sqB, sqC]
      refine rP 30 76 1 rfl hD hS_7_9 ?_; clear hD; intro hD; simp only [Act.put, sqA, sqB, sqC]
      refine rO 31 0 rfl hD ?_; clear hD; intro K31 hK31
      go_wp2
      refine hK31 _ _ (by exact hS_7_9) ?_; clear hK31; intro hS_7_31 hD
      have HL := Lib.hid hS_7_31
      refine wpAnyK_done (by kernel_rfl) ?_ 0
      clear hD
      clear c7 ck cw
      rw [tv_val2]
      obtain ⟨T, hT⟩ : ∃ T, hh + (rr e 6 ^^^ rr e 11 ^^^ rr e 25) + (e &&& f ^^^ ~~~ e &&& g') + kk + ww = T := ⟨_, rfl⟩
      have HT := Lib.hid hT
      rw [hT]
      clear hT
      have HXL := Lib.hid (HXE.out.kept HL.out HXE.out.lt)
      have HBL := Lib.hid (below_up HBE.out (by rw [← hL]; exact HBE.out.size) HL.out)
      have HSL := Lib.hid (show L ≤ we.heap.size from by rw [← hL]; have := HBE.out.size; omega)
      have HSM := Lib.hid HL.out.size
      go_wp2_with fail
      refine (r05_right a 2 (by decide) (by decide) _).mono ?_
      rintro e' w5 ⟨rfl, hb5⟩
      go_wp2_with fail
      refine (r05_right a 13 (by decide) (by decide) _).mono ?_
      rintro e' w6 ⟨rfl, hb6⟩
      go_wp2_with fail
      refine (r05_right a 22 (by decide) (by decide) _).mono ?_
      rintro e' w7 ⟨rfl, hb7⟩
      have hb567 := (hb5.trans (hb6.mono hb5.size)).trans (hb7.mono (by have := hb5.size; have := hb6.size; omega))
      have HX7 := Lib.hid (HXL.out.kept hb567 HXL.out.lt)
      have HB7 := Lib.hid (below_up HBL.out (by have := HSL.out; have := HSM.out; omega) hb567)
      have HS7 := Lib.hid (show L ≤ w7.heap.size from by have := HSL.out; have := HSM.out; have := hb567.size; omega)
      clear hb5 hb6 hb7 hb567
      obtain ⟨_, _, _, c3, _, _, _, _⟩ := HX7.out.c8
      go_wp2
      rw [tu_val, mod_val]
      clear c3
      refine ⟨⟨k + 1, w7.heap.size, 8, by omega, rfl, by go_num, by have := HS7.out; omega, ?_, HB7.out.alloc HS7.out _⟩, by simp [RowKit.intOf]; omega⟩
      rw [rds_succ, HST.out, HKK.out, HWW.out]
      have := RowV8.new w7 (rd kk ww ⟨a, b', c, d, e, f, g', hh⟩)
      rw [← HT.out]
      exact this
    · have HK64 := Lib.hid (show k = 64 from by omega)
      have hge : ¬ ((k : Int) < 64) := by omega
      obtain ⟨X, hX⟩ : ∃ X, rds m S 64 = X := ⟨_, rfl⟩
      have HX3 := Lib.hid (show RowV8 wr g c2 (addP X S 0) from by
        have h := HX2.out
        rw [HK64.out, hX] at h
        exact h.congr fun j _ => by unfold addP; rw [if_neg (Nat.not_lt_zero _)])
      have HXY := Lib.hid (show X.add S = Y from by rw [← hX, ← HY.out]; rfl)
      have HV4 := Lib.hid (HV.out.kept HB3.out (by omega))
      have HV3' := Lib.hid (HV4.out.kept HBR.out (by omega))
      have HBX := Lib.hid (show Below H w wr from HB3.out.trans (HBR.out.mono (by omega)))
      clear hk hlt HX2 HK64 hX HBR HV4 HV3 HR3 HK3
      go_wp2
      go_loopw [17] (fun i wr => ∃ q : Nat, q ≤ 8 ∧ i = .int .i64 q ∧ RowV8 wr g c2 (addP X S q) ∧ Below H w wr) (fun i _ => 8 - (RowKit.intOf i).toNat)
      case atStart => exact ⟨0, by omega, rfl, HX3.out, HBX.out⟩
      case round =>
        obtain ⟨q, hq, rfl, hx, hb⟩ := hrel
        have HXQ := Lib.hid hx
        have HBQ := Lib.hid hb
        clear hx hb
        by_cases hq8 : q < 8
        · have hqi : (q : Int) < 8 := by omega
          have c0 := HXQ.out.drew.cell hq8
          have c1 := (HV.out.kept HBQ.out (by rw [← hH] at hbH; omega)).drew.cell hq8
          have hf := HXQ.out.drew.free q
          obtain ⟨x, hx⟩ : ∃ x, addP X S q q = x := ⟨_, rfl⟩
          obtain ⟨y, hy⟩ : ∃ x, S.at q = x := ⟨_, rfl⟩
          have HE := Lib.hid (show addP X S (q + 1) q = x + y from by rw [← hx, ← hy]; unfold addP; rw [if_pos (by omega), if_neg (by omega)])
          rw [hx] at c0
          rw [hy] at c1
          clear hx hy
          obtain ⟨wd, hwd⟩ : ∃ wd, wr.drew = wd := ⟨_, rfl⟩
          rw [hwd] at c0 c1 hf
          go_wp2
          refine wp_region_K 10 (Eq wd) (by kernel_rfl) ?_
          intro hD
          rw [hwd]
          refine wpAnyK_pureD (i := 0) (d := some 116) (v := ?v13_0b3) (fuel := 10) rfl (by kernel_rfl) (by kernel_rfl) (fun _ _ _ h => h) hD rfl (.inl ⟨by kernel_rfl, ?y13_0b3⟩) ?n13_0b3
          case y13_0b3 => intro w' _; go_simp; with_reducible rfl
          clear hD; intro hD
          simp only [Act.put, sqA, sqB, sqC]
          refine wpAnyK_pureD (i := 1) (d := some 117) (v := ?v13_1b3) (fuel := 9) rfl (by kernel_rfl) (by kernel_rfl) (fun _ _ _ h => h) hD rfl (.inl ⟨by kernel_rfl, ?y13_1b3⟩) ?n13_1b3
          case y13_1b3 => intro w' _; go_simp; with_reducible rfl
          clear hD; intro hD
          simp only [Act.put, sqA, sqB, sqC]
          refine wpAnyK_pureD (i := 2) (d := some 118) (v := ?v13_2b3) (fuel := 8) rfl (by kernel_rfl) (by kernel_rfl) (fun _ _ _ h => h) hD rfl (.inl ⟨by kernel_rfl, ?y13_2b3⟩) ?n13_2b3
          case y13_2b3 => intro w' _; go_simp; with_reducible rfl
          clear hD; intro hD
          simp only [Act.put, sqA, sqB, sqC]
          refine wpAnyK_takeD (i := 3) (d := some 119) (v := ?v13_3b3) (fuel := 7) rfl (by kernel_rfl) (by kernel_rfl) (by kernel_rfl) (fun _ _ _ h => h) hD rfl (.inl ⟨by kernel_rfl, ?y13_3b3⟩) ?n13_3b3
          case y13_3b3 => intro w' hS'; have e0 := (hS' ▸ c0); have e1 := (hS' ▸ c1); go_simp; with_reducible rfl
          clear hD; intro hD
          simp only [Act.put, sqA, sqB, sqC]
          refine wpAnyK_pureD (i := 4) (d := some 120) (v := ?v13_4b3) (fuel := 6) rfl (by kernel_rfl) (by kernel_rfl) (fun _ _ _ h => h) hD rfl (.inl ⟨by kernel_rfl, ?y13_4b3⟩) ?n13_4b3
          case y13_4b3 => intro w' _; go_simp; with_reducible rfl
          clear hD; intro hD
          simp only [Act.put, sqA, sqB, sqC]
          refine wpAnyK_pureD (i := 5) (d := some 121) (v := ?v13_5b3) (fuel := 5) rfl (by kernel_rfl) (by kernel_rfl) (fun _ _ _ h => h) hD rfl (.inl ⟨by kernel_rfl, ?y13_5b3⟩) ?n13_5b3
          case y13_5b3 => intro w' _; go_simp; with_reducible rfl
          clear hD; intro hD
          simp only [Act.put, sqA, sqB, sqC]
          refine wpAnyK_pureD (i := 6) (d := some 122) (v := ?v13_6b3) (fuel := 4) rfl (by kernel_rfl) (by kernel_rfl) (fun _ _ _ h => h) hD rfl (.inl ⟨by kernel_rfl, ?y13_6b3⟩) ?n13_6b3
          case y13_6b3 => intro w' _; go_simp; with_reducible rfl
          clear hD; intro hD
          simp only [Act.put, sqA, sqB, sqC]
          refine wpAnyK_takeD (i := 7) (d := some 123) (v := ?v13_7b3) (fuel := 3) rfl (by kernel_rfl) (by kernel_rfl) (by kernel_rfl) (fun _ _ _ h => h) hD rfl (.inl ⟨by kernel_rfl, ?y13_7b3⟩) ?n13_7b3
          case y13_7b3 => intro w' hS'; have e0 := (hS' ▸ c0); have e1 := (hS' ▸ c1); go_simp; with_reducible rfl
          clear hD; intro hD
          simp only [Act.put, sqA, sqB, sqC]
          refine wpAnyK_pureD (i := 8) (d := some 124) (v := ?v13_8b3) (fuel := 2) rfl (by kernel_rfl) (by kernel_rfl) (fun _ _ _ h => h) hD rfl (.inl ⟨by kernel_rfl, ?y13_8b3⟩) ?n13_8b3
          case y13_8b3 => intro w' _; go_simp; with_reducible rfl
          clear hD; intro hD
          simp only [Act.put, sqA, sqB, sqC]
          refine wpAnyK_pureD (i := 9) (d := some 125) (v := ?v13_9b3) (fuel := 1) rfl (by kernel_rfl) (by kernel_rfl) (fun _ _ _ h => h) hD rfl (.inl ⟨by kernel_rfl, ?y13_9b3⟩) ?n13_9b3
          case y13_9b3 => intro w' _; go_simp; with_reducible rfl
          clear hD; intro hD
          simp only [Act.put, sqA, sqB, sqC]
          refine wpAnyK_oneT (i := 10) (fuel := 0) (by kernel_rfl) rfl hD (by kernel_rfl) ?_; clear hD; intro K10 hK10
          go_wp2
          refine hK10 _ _ ?_; clear hK10; intro hD
          refine wpAnyK_done (by kernel_rfl) ?_ 0
          clear hD
          clear c0 c1 hf
          rw [mod_val]
          go_wp2
          go_roundw
          case rel =>
            refine ⟨q + 1, by omega, by go_num, ?_, ?_⟩
            · rw [← hwd]
              refine (HXQ.out.drew.set q (x + y)).congr fun i hi => ?_
              by_cases e : i = q
              · rw [if_pos e, e, HE.out]
              · rw [if_neg e]; unfold addP
                by_cases h : i < q
                · rw [if_pos h, if_pos (by omega)]
                · rw [if_neg h, if_neg (by omega)]
            · rw [← hwd]; exact HBQ.out.drew.setCell (by have := HG.out; exact this) _
          case measure => simp [RowKit.intOf]; omega
        · have HQ := Lib.hid (show q = 8 from by omega)
          have hqe : ¬ ((q : Int) < 8) := by omega
          have HXE := Lib.hid (show RowV8 wr g c2 Y.at from by
            have h := HXQ.out
            rw [HQ.out] at h
            rw [← HXY.out]
            exact h.congr fun j hj => addP_all X S j hj)
          clear hq hq8 HXQ HQ
          go_wp2
          go_ret
          exact ⟨g, c2, rfl, HXE.out, HG.out, HBQ.out⟩
end Go.Proofs.YtndmjfkmnjejkaaGreatDoor
/- Walk: the reference's padded and Sum. -/
set_option linter.unusedVariables false
set_option linter.unusedSimpArgs false
namespace Go.Proofs.YtndmjfkmnjejkaaGreatDoor
open Go.RowKit Go.Lib
theorem bstr_snoc (l m : List UInt8) : bstr l ++ ⟨m.toArray⟩ = bstr (l ++ m) := by
  unfold bstr
  rw [ByteArray.mk_append_mk]
theorem shE8_beN (N : Nat) : beN 8 N = shE8 N := by
  have e : ∀ k, UInt8.ofNat (N / 256 ^ k % 256) = UInt8.ofNat (N / 2 ^ (8 * k)) := fun k => by
    rw [Nat.pow_mul]; apply UInt8.toNat_inj.1; simp [UInt8.toNat_ofNat']
  show [UInt8.ofNat (N / 256 ^ 7 % 256), UInt8.ofNat (N / 256 ^ 6 % 256), UInt8.ofNat (N / 256 ^ 5 % 256), UInt8.ofNat (N / 256 ^ 4 % 256), UInt8.ofNat (N / 256 ^ 3 % 256), UInt8.ofNat (N / 256 ^ 2 % 256), UInt8.ofNat (N / 256 ^ 1 % 256), UInt8.ofNat (N / 256 ^ 0 % 256)] = _
  rw [e 7, e 6, e 5, e 4, e 3, e 2, e 1, e 0]
  simp [shE8]
set_option maxRecDepth 100000 in
set_option maxHeartbeats 2000000 in
theorem r05_padded (s : ByteArray) (hs : s.size ≤ 1000000000000) (w : World) : Calls Tryz.prog 231 #[.string s] w (Ret (.string (bstr (padL s.data.toList))) w) := by
  obtain ⟨n, hn⟩ : ∃ n, s.size = n := ⟨_, rfl⟩
  obtain ⟨l, hl⟩ : ∃ l, s.data.toList = l := ⟨_, rfl⟩
  have HL := Lib.hid (show l.length = n from by rw [← hl, ← hn]; exact Array.length_toList)
  have hsl : s = bstr l := by rw [← hl]; exact (bstr_of s).symm
  rw [hl]
  obtain ⟨r, hr⟩ : ∃ r, bstr (padL l) = r := ⟨_, rfl⟩
  have HR := Lib.hid hr
  rw [hr]
  clear hr
  rw [hn] at hs
  have hni : (n : Int) ≤ 1000000000000 := by omega
  obtain ⟨t1, ht1⟩ : ∃ t, bstr (l ++ [128]) = t := ⟨_, rfl⟩
  have hadd : ∀ w, (Op.stringOp .add s ⟨#[128]⟩).run Tryz.prog w = .ok (.string t1) w := fun w => by
    rw [run_string_add_sum w _ _ (by rw [hn]; show n + 1 ≤ _; omega), hsl, ← ht1]
    exact congrArg (fun x => Result.ok (Value.string x) w) (bstr_snoc l [128])
  have HT1 := Lib.hid ht1
  clear hl hsl ht1
  go_enter Tryz.func231, Tryz.ntmps231
  go_wp2
  clear hadd
  go_loopw [0] (fun v wr => ∃ (k : Nat) (t : ByteArray), k ≤ zs n ∧ v = .string t ∧ t = bstr (l ++ [128] ++ List.replicate k 0) ∧ w = wr) (fun v _ => n + 100 - (match v with | .string s => s.size | _ => 0))
  case atStart => exact ⟨0, t1, Nat.zero_le _, rfl, by rw [← HT1.out]; simp, rfl⟩
  case round =>
    obtain ⟨k, t, hk, rfl, ht, rfl⟩ := hrel
    obtain ⟨j, hj⟩ : ∃ j, n + 1 + k = j := ⟨_, rfl⟩
    have htj : t.size = j := by rw [ht, bstr_size]; simp [HL.out]; omega
    have HT := Lib.hid ht
    have HJ := Lib.hid hj
    by_cases hlt : k < zs n
    · have hne : ¬ ((j : Int) % 64 = 56) := by have : zs n = (119 - n % 64) % 64 := rfl; omega
      obtain ⟨t2, ht2⟩ : ∃ x, bstr (l ++ [128] ++ List.replicate (k + 1) 0) = x := ⟨_, rfl⟩
      have hadd : ∀ w, (Op.stringOp .add t ⟨#[0]⟩).run Tryz.prog w = .ok (.string t2) w := fun w => by
        have hz : zs n ≤ 63 := by unfold zs; omega
        rw [run_string_add_sum w _ _ (by rw [htj]; show j + 1 ≤ _; omega), ht, ← ht2]
        refine congrArg (fun x => Result.ok (Value.string x) w) ?_
        rw [List.replicate_succ', ← List.append_assoc]
        exact bstr_snoc _ [0]
      have HT2 := Lib.hid ht2
      have hj63 : (j : Int) ≤ 1000000000100 := by have hz : zs n ≤ 63 := by unfold zs; omega
                                                  omega
      clear ht ht2 hj hk
      go_wp2
      refine ⟨⟨k + 1, t2, by omega, rfl, HT2.out.symm, trivial⟩, ?_⟩
      have h1 := HT2.out
      have h2 : t2.size = n + 1 + (k + 1) := by rw [← h1, bstr_size]; simp [HL.out]; omega
      have h3 := HJ.out
      have hz : zs n ≤ 63 := by unfold zs; omega
      show n + 100 - t2.size < n + 100 - t.size
      omega
    · have he : (j : Int) % 64 = 56 := by have : zs n = (119 - n % 64) % 64 := rfl; omega
      have HKZ := Lib.hid (show k = zs n from by omega)
      have hmk : (Instr.makeSlice 125 (.int .i64 8) (.int .i64 8)).run Tryz.prog w = .ok (.slice (some ⟨w.heap.size, 0, none⟩) 8 8) (w.alloc (.cells (zb 8) 5)) := make_bytes 8 (by decide) w
      have HO := Lib.hid (OutB.start (w := w) 8 (n * 8))
      have HB := Lib.hid (show Below w.heap.size w (w.alloc (.cells (zb 8) 5)) from (Below.refl _ _).alloc (Nat.le_refl _) _)
      obtain ⟨w1, hw1⟩ : ∃ w1, w.alloc (.cells (zb 8) 5) = w1 := ⟨_, rfl⟩
      rw [hw1] at hmk HO HB
      clear hw1 hk hlt ht hj
      obtain ⟨H, hH⟩ : ∃ H, w.heap.size = H := ⟨_, rfl⟩
      rw [hH] at hmk HO HB
      go_wp2
      clear he hmk
      go_loopw [5, 6] (fun b i wr => ∃ q : Nat, q ≤ 8 ∧ b = .int .u64 ((n * 8 / 256 ^ q : Nat) : Int) ∧ i = .int .i64 (7 - (q : Int)) ∧ OutB wr H 8 q (n * 8) ∧ Below H w wr) (fun _ i _ => (8 + RowKit.intOf i).toNat)
      case atStart => exact ⟨0, by omega, by simp, rfl, HO.out, HB.out⟩
      case round =>
        obtain ⟨q, hq, rfl, rfl, ho, hb⟩ := hrel
        have HO := Lib.hid ho
        have HB := Lib.hid hb
        clear ho hb
        by_cases hlt : q < 8
        · obtain ⟨p, hp⟩ : ∃ p, p + 1 + q = 8 := ⟨7 - q, by omega⟩
          have hpi : (7 : Int) - (q : Int) = (p : Int) := by omega
          obtain ⟨N, hN⟩ : ∃ N, n * 8 / 256 ^ q = N := ⟨_, rfl⟩
          have HN := Lib.hid hN
          rw [hN]
          have hd : ((N : Int) % 256) = ((dig (n * 8) q : Nat) : Int) := by rw [← hN]; unfold dig; simp
          clear hN
          obtain ⟨u, c0⟩ := HO.out.cell (show p < 8 by omega)
          have hf := HO.out.free p
          have hp8 : (p : Int) < 8 := by omega
          have hp0 : (0 : Int) ≤ (p : Int) := by omega
          have HP := Lib.hid hp
          clear hp hq hlt
          go_wp2
          have h1 := HO.out.step (k := p) (by have := HP.out; omega)
          refine ⟨⟨q + 1, by have := HP.out; omega, ?_, ?_, h1, HB.out.setCell (p := ⟨H, p, none⟩) (Nat.le_refl _) _⟩, ?_⟩
          · rw [show n * 8 / 256 ^ (q + 1) = N / 256 from by rw [← HN.out, Nat.pow_succ, Nat.div_div_eq_div_mul]]
            have hNn : N ≤ n * 8 := by rw [← HN.out]; exact Nat.div_le_self _ _
            simp
            rw [IntKind.wrap_u64]
            omega
          · have := HP.out; congr 1; omega
          · have := HP.out; simp [RowKit.intOf]; omega
        · have HQ8 := Lib.hid (show q = 8 from by omega)
          have hge : ¬ ((0 : Int) ≤ 7 - (q : Int)) := by omega
          have hby := (show OutB wr H 8 8 (n * 8) from by have := HO.out; rw [HQ8.out] at this; exact this).bytes (by omega)
          rw [shE8_beN] at hby
          have hconv := hby.conv 125 9 5 Tryz.underlying125 Tryz.underlying5 Tryz.underlying9
          have HE := Lib.hid (show (bstr (shE8 (n * 8))).size = 8 from by rw [bstr_size]; rfl)
          obtain ⟨y, hy⟩ : ∃ y, bstr (shE8 (n * 8)) = y := ⟨_, rfl⟩
          rw [hy] at hconv HE
          have hadd : ∀ w, (Op.stringOp .add t y).run Tryz.prog w = .ok (.string r) w := fun w => by
            have hz : zs n ≤ 63 := by unfold zs; omega
            have hts : t.size ≤ 1000000000100 := by rw [HT.out, bstr_size]; simp [HL.out]; have := HKZ.out; omega
            rw [run_string_add_sum w _ _ (by rw [HE.out]; omega), HT.out, ← hy, ← HR.out]
            refine congrArg (fun x => Result.ok (Value.string x) w) ?_
            rw [HKZ.out]
            unfold padL
            rw [HL.out]
            exact bstr_snoc _ _
          clear hby hy hlt hq
          go_wp2
          go_ret
          exact ⟨rfl, by rw [hH]; exact HB.out⟩
end Go.Proofs.YtndmjfkmnjejkaaGreatDoor
/- Walk: the reference's Sum. -/
set_option linter.unusedVariables false
set_option linter.unusedSimpArgs false
namespace Go.Proofs.YtndmjfkmnjejkaaGreatDoor
open Go.RowKit Go.Lib
theorem bstr_extract (l : List UInt8) (a b : Nat) : (bstr l).extract a b = bstr ((l.drop a).take (b - a)) := ByteArray.extract_mk l a b
theorem bstr_list (l : List UInt8) : (bstr l).data.toList = l := by simp [bstr]
set_option maxRecDepth 100000 in
set_option maxHeartbeats 2000000 in
theorem r05_Sum (s : ByteArray) (hs : s.size ≤ 1000000000000) (w : World) : Calls Tryz.prog 213 #[.string s] w (Ret (.string (bstr (shaL s.data.toList))) w) := by
  have HPD := Lib.hid (r05_padded s hs)
  obtain ⟨n, hn⟩ : ∃ n, s.size = n := ⟨_, rfl⟩
  obtain ⟨l, hl⟩ : ∃ l, s.data.toList = l := ⟨_, rfl⟩
  have hll : l.length = n := by rw [← hl, ← hn]; exact Array.length_toList
  rw [hl] at HPD ⊢
  obtain ⟨r, hr⟩ : ∃ r, bstr (shaL l) = r := ⟨_, rfl⟩
  have HR := Lib.hid hr
  rw [hr]
  obtain ⟨P, hP⟩ : ∃ P, padL l = P := ⟨_, rfl⟩
  rw [hP] at HPD
  obtain ⟨Ln, hLn⟩ : ∃ k, P.length = k := ⟨_, rfl⟩
  have HLn := Lib.hid hLn
  have HPP := Lib.hid hP
  have HMOD := Lib.hid (show Ln % 64 = 0 from by rw [← hLn, ← hP]; exact padL_mod l)
  have HBIG := Lib.hid (show Ln ≤ 1000000000100 from by
    rw [← hLn, ← hP, padL_length, hll]; have : zs n ≤ 63 := by unfold zs; omega
    omega)
  obtain ⟨m, hm⟩ : ∃ m, bstr P = m := ⟨_, rfl⟩
  have HM := Lib.hid hm
  have HMS := Lib.hid (show m.size = Ln from by rw [← hm, bstr_size, hLn])
  rw [hm] at HPD
  clear hr hP hLn hm hl hll hn hs
  have e0 : st0.arr = #[Value.int .u32 1779033703, Value.int .u32 3144134277, Value.int .u32 1013904242, Value.int .u32 2773480762, Value.int .u32 1359893119, Value.int .u32 2600822924, Value.int .u32 528734635, Value.int .u32 1541459225] := by kernel_rfl
  have HS0 := Lib.hid (show RowV8 (w.alloc (.cells st0.arr 216)) w.heap.size 8 st0.at from RowV8.new w st0)
  have HB0 := Lib.hid (show Below w.heap.size w (w.alloc (.cells st0.arr 216)) from (Below.refl _ _).alloc (Nat.le_refl _) _)
  rw [e0] at HS0 HB0
  clear e0
  go_enter Tryz.func213, Tryz.ntmps213
  go_wp2_with fail
  refine (HPD.out _).mono ?_
  rintro e w1 ⟨rfl, hb1⟩
  have HS1 := Lib.hid (HS0.out.kept hb1 HS0.out.lt)
  have HB1 := Lib.hid (below_up HB0.out HB0.out.size hb1)
  obtain ⟨H, hH⟩ : ∃ H, w.heap.size = H := ⟨_, rfl⟩
  rw [hH] at HS1 HB1 ⊢
  clear hb1 HS0 HB0 HPD
  go_wp2
  go_loopw [3, 5] (fun v i wr => ∃ k g c : Nat, 64 * k ≤ Ln ∧ v = .slice (some ⟨g, 0, none⟩) 8 c ∧ i = .int .i64 ((64 * k : Nat) : Int) ∧ RowV8 wr g c (blks st0 k P).at ∧ Below H w wr) (fun _ i _ => Ln - (RowKit.intOf i).toNat)
  case atStart => exact ⟨0, H, 8, Nat.zero_le _, rfl, rfl, HS1.out, HB1.out⟩
  case round =>
    obtain ⟨k, g, c, hk, rfl, rfl, hx, hb⟩ := hrel
    have HX := Lib.hid hx
    have HB := Lib.hid hb
    clear hx hb
    obtain ⟨j, hj⟩ : ∃ j, 64 * k = j := ⟨_, rfl⟩
    have HJ := Lib.hid hj
    rw [hj]
    have hms := HMS.out
    have hbig := HBIG.out
    by_cases hlt : j < Ln
    · have h64 : j + 64 ≤ Ln := by have := HMOD.out; omega
      have hji : (j : Int) < (m.size : Int) := by omega
      have h64i : (j : Int) + 64 ≤ (m.size : Int) := by omega
      have hbi : (j : Int) ≤ 1000000000100 := by omega
      clear hj hk hlt h64 hms hbig
      go_wp2_with fail
      have hlist : (m.extract j (j + 64)).data.toList = (P.drop (64 * k)).take 64 := by
        rw [← HM.out, bstr_extract, bstr_list, ← HJ.out, Nat.add_sub_cancel_left]
      have hsz : (m.extract j (j + 64)).size = 64 := by
        rw [ByteArray.size_extract]; omega
      have HC := r05_compress (blks st0 k P) (m.extract j (j + 64)) hsz g c wr HX.out
      rw [hlist, ← blks_succ] at HC
      have HKJ := Lib.hid (show 64 * (k + 1) = j + 64 ∧ j + 64 ≤ Ln ∧ j < Ln from by have := HJ.out; have := HMS.out; omega)
      refine HC.mono ?_
      rintro e w2 ⟨g2, c2, rfl, hx2, hg2, hb2⟩
      have HX2 := Lib.hid hx2
      have HB2 := Lib.hid (below_up HB.out (by rw [← hH]; exact HB.out.size) hb2)
      clear hx2 hg2 hb2 HC hlist hsz
      go_wp2
      refine ⟨⟨k + 1, g2, c2, ?_, rfl, ?_, HX2.out, HB2.out⟩, ?_⟩
      · rw [HKJ.out.1]; exact HKJ.out.2.1
      · rw [HKJ.out.1]; simp
      · have := HKJ.out; simp [RowKit.intOf]; omega
    · have hge : ¬ ((j : Int) < (m.size : Int)) := by omega
      obtain ⟨F, hF⟩ : ∃ F, blks st0 k P = F := ⟨_, rfl⟩
      have HF := Lib.hid (show r = bstr (F.ws.flatMap wo) from by
        rw [← HR.out, ← hF]; unfold shaL; rw [HPP.out, HLn.out, show Ln / 64 = k from by have := HJ.out; omega])
      rw [hF] at HX
      clear hF hlt hj hk hms hbig
      obtain ⟨w5, hw5⟩ : ∃ x, x = wr := ⟨_, rfl⟩
      subst hw5
      obtain ⟨G, hG⟩ : ∃ G, w5.heap.size = G := ⟨_, rfl⟩
      have HHG := Lib.hid (show H ≤ G from by rw [← hG, ← hH]; exact HB.out.size)
      have HGG := Lib.hid (show g < G from by rw [← hG]; exact HX.out.lt)
      go_wp2
      clear hge
      go_loopw [6, 7] (fun v x wx => ∃ i : Nat, i ≤ 8 ∧ x = .int .i64 i ∧ wx.ownsRow G 5 1 v (4 * i) (byteCells ((F.ws.take i).flatMap wo)) ∧ Below G w5 wx) (fun _ x _ => 8 - (RowKit.intOf x).toNat)
      case atStart => exact ⟨0, by omega, rfl, World.ownsRow_nil _ _ _ _, Below.refl _ _⟩
      case round =>
        obtain ⟨i2, hi2, rfl, hown, hb⟩ := hrel
        have HO := Lib.hid hown
        have HB2 := Lib.hid hb
        clear hown hb
        by_cases hlt : i2 < 8
        · have hi2i : (i2 : Int) < 8 := by omega
          have HX2 := HX.out.kept HB2.out HGG.out
          have cc := HX2.cell hlt
          have HTK := Lib.hid (ws_take F i2 hlt)
          obtain ⟨x, hx⟩ : ∃ x, F.at i2 = x := ⟨_, rfl⟩
          rw [hx] at cc HTK
          clear hx HX2
          have HWC := Lib.hid (word_cells x)
          have HGX := Lib.hid (show G ≤ wr.heap.size from by rw [← hG]; exact HB2.out.size)
          go_wp2_with (at_builtin; refine wpList_append_word _ rfl (.tmp 33) (.tmp 45) rfl G (4 * i2) _ ((F.ws.take i2).flatMap wo) rfl (HO.out.alloc _) (by omega) wr.heap.size 4 x rfl (by rw [← HWC.out]; exact heap_alloc_new _ _) (by have := HGX.out; simp; omega) ?_)
          intro v3 w8 ho8 hb8
          have HO8 := Lib.hid ho8
          have HB8 := Lib.hid (show Below G w5 w8 from (HB2.out.alloc (by have := HGX.out; omega) _).trans hb8)
          clear ho8 hb8 cc
          go_wp2
          go_roundw
          case rel =>
            refine ⟨i2 + 1, by omega, by go_num, ?_, HB8.out⟩
            rw [HTK.out]
            exact HO8.out
          case measure => simp [RowKit.intOf]; omega
        · obtain rfl : i2 = 8 := by omega
          obtain ⟨A, c7, rfl, hby⟩ := own_bytes HO.out (show ((F.ws.take 8).flatMap wo).length = 4 * 8 from by simp [W8.ws, wo])
          have hconv := hby.conv 125 9 5 Tryz.underlying125 Tryz.underlying5 Tryz.underlying9
          have hw8 : F.ws.take 8 = F.ws := rfl
          rw [hw8, ← HF.out] at hconv
          clear hby hw8
          have HBF := Lib.hid (show Below H w wr from HB.out.trans (HB2.out.mono HHG.out))
          go_wp2
          go_ret
          exact ⟨rfl, by rw [hH]; exact HBF.out⟩
end Go.Proofs.YtndmjfkmnjejkaaGreatDoor

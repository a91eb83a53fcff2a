/- Walk: (hash.state).after. -/
import Derived.Test.YtndmjfkmnjejkaaGreatDoorQShD
import Derived.Deep.WholeRow
import Derived.Lib.BufferWrite
import Derived.Deep.AppendLies
import Derived.OwnWalk
import Derived.Laws.MakeOwn
set_option linter.unusedVariables false
set_option linter.unusedSimpArgs false
namespace Go.Proofs.YtndmjfkmnjejkaaGreatDoor
open Go.RowKit
def RowS (w : World) (B : Nat) (s : W8) : Prop := w.heap[B]? = some (.cells s.arr 230 (0, 0))
theorem RowS.kept {w w' : World} {K B : Nat} {s : W8} (h : RowS w B s) (hb : Below K w w') (hB : B < K) : RowS w' B s := (hb.block B hB).trans h
theorem RowS.lt {w : World} {B : Nat} {s : W8} (h : RowS w B s) : B < w.heap.size := block_lt h
theorem RowS.drew {w : World} {B : Nat} {s : W8} (h : RowS w B s) : RowS w.drew B s := h
theorem RowS.cell {w : World} {B : Nat} {s : W8} (h : RowS w B s) (i : Nat) {v : Value} (hv : s.arr[i]? = some v) : w.cell? ⟨B, i, none⟩ = some v := by rw [Lib.cell_of_heap h]; exact hv
theorem RowS.c8 {w : World} {B : Nat} {a b c d e f g h : BitVec 32} (H : RowS w B ⟨a, b, c, d, e, f, g, h⟩) : w.cell? ⟨B, 0, none⟩ = some (.int .u32 (wi a)) ∧ w.cell? ⟨B, 1, none⟩ = some (.int .u32 (wi b)) ∧ w.cell? ⟨B, 2, none⟩ = some (.int .u32 (wi c)) ∧ w.cell? ⟨B, 3, none⟩ = some (.int .u32 (wi d)) ∧ w.cell? ⟨B, 4, none⟩ = some (.int .u32 (wi e)) ∧ w.cell? ⟨B, 5, none⟩ = some (.int .u32 (wi f)) ∧ w.cell? ⟨B, 6, none⟩ = some (.int .u32 (wi g)) ∧ w.cell? ⟨B, 7, none⟩ = some (.int .u32 (wi h)) :=
  ⟨H.cell 0 rfl, H.cell 1 rfl, H.cell 2 rfl, H.cell 3 rfl, H.cell 4 rfl, H.cell 5 rfl, H.cell 6 rfl, H.cell 7 rfl⟩
theorem RowS.free {w : World} {B : Nat} {s : W8} (h : RowS w B s) (k : Nat) : w.frozen? ⟨B, k, none⟩ = false := Lib.frozen_of_heap h k
theorem W8.arr_one (s : W8) : s.arr.all (·.oneCell') = true := by simp [W8.arr, Value.oneCell']
def z8 : Array Value := #[.int .u32 0, .int .u32 0, .int .u32 0, .int .u32 0, .int .u32 0, .int .u32 0, .int .u32 0, .int .u32 0]
theorem BytesAt.kept {w w' : World} {A : Option Addr} {len cap : Nat} {bs : List UInt8} (h : BytesAt w A len cap bs) (hb : Below w.heap.size w w') : BytesAt w' A len cap bs := by
  obtain ⟨h1, h2, h3, h4⟩ := h
  refine ⟨h1, h2, h3, fun hp => ?_⟩
  obtain ⟨b, o, e, hc⟩ := h4 hp
  exact ⟨b, o, e, fun k hk => cell_kept hb (Nat.le_refl _) (hc k hk)⟩
def z64 : Array Value := madeCells #[.int .u32 0] 64
theorem two_rows (w : World) (f g : Nat → BitVec 32) (T : TypeId) : RowW ((((w.alloc (.cells z64 T)).alloc (.cells z64 T)).setRow w.heap.size (wa 64 f)).setRow (w.heap.size + 1) (wa 64 g)) w.heap.size 64 T f ∧
    RowW ((((w.alloc (.cells z64 T)).alloc (.cells z64 T)).setRow w.heap.size (wa 64 f)).setRow (w.heap.size + 1) (wa 64 g)) (w.heap.size + 1) 64 T g ∧
    Below w.heap.size w ((((w.alloc (.cells z64 T)).alloc (.cells z64 T)).setRow w.heap.size (wa 64 f)).setRow (w.heap.size + 1) (wa 64 g)) := by
  have e0 : ((w.alloc (.cells z64 T)).alloc (.cells z64 T)).heap[w.heap.size]? = some (.cells z64 T (0, 0)) := by rw [heap_alloc_old _ _ (by simp)]; exact heap_alloc_new _ _
  have e1 : ((w.alloc (.cells z64 T)).alloc (.cells z64 T)).heap[w.heap.size + 1]? = some (.cells z64 T (0, 0)) := heap_alloc2_new _ _ _
  have e2 : (((w.alloc (.cells z64 T)).alloc (.cells z64 T)).setRow w.heap.size (wa 64 f)).heap[w.heap.size + 1]? = some (.cells z64 T (0, 0)) := by rw [setRow_other _ _ _ _ (by omega)]; exact e1
  refine ⟨?_, ?_, ?_⟩
  · unfold RowW; rw [setRow_other _ _ _ _ (by omega)]; exact setRow_heap _ _ _ _ _ _ e0
  · unfold RowW; exact setRow_heap _ _ _ _ _ _ e2
  · exact below_setRow (below_setRow (((Below.refl _ _).alloc (Nat.le_refl _) _).alloc (by simp) _) (Nat.le_refl _) _) (by omega) _
theorem u32_max : IntKind.u32.max = 4294967295 := rfl
theorem tv_val (e f g h k w : BitVec 32) : (wi h + bits .xor .u32 (bits .xor .u32 (wi (rr e 6)) (wi (rr e 11))) (wi (rr e 25)) + bits .xor .u32 (bits .and .u32 (wi e) (wi f)) (bits .and .u32 (bits .xor .u32 IntKind.u32.max (wi e)) (wi g)) + wi k + wi w) % 4294967296 =
    wi (h + (rr e 6 ^^^ rr e 11 ^^^ rr e 25) + (e &&& f ^^^ ~~~ e &&& g) + k + w) := by
  rw [u32_max, wi_not, wi_xor, wi_xor, wi_and, wi_and, wi_xor, ← wi_add, ← wi_add, ← wi_add, ← wi_add]
  simp only [IntKind.wrap_u32']
  omega
theorem uv_val (a b c : BitVec 32) : (bits .xor .u32 (bits .xor .u32 (wi (rr a 2)) (wi (rr a 13))) (wi (rr a 22)) + bits .xor .u32 (bits .xor .u32 (bits .and .u32 (wi a) (wi b)) (bits .and .u32 (wi a) (wi c))) (bits .and .u32 (wi b) (wi c))) % 4294967296 =
    wi ((rr a 2 ^^^ rr a 13 ^^^ rr a 22) + (a &&& b ^^^ a &&& c ^^^ b &&& c)) := by
  rw [wi_xor, wi_xor, wi_and, wi_and, wi_and, wi_xor, wi_xor, ← wi_add, IntKind.wrap_u32']
theorem mod_val (a b : BitVec 32) : (wi a + wi b) % 4294967296 = wi (a + b) := by rw [← wi_add, IntKind.wrap_u32']
def W8.at (s : W8) (i : Nat) : BitVec 32 := s.ws.getD i 0
theorem W8.arr_wa (s : W8) : s.arr = wa 8 s.at := rfl
theorem RowS.row {w : World} {B : Nat} {s : W8} (h : RowS w B s) : RowW w B 8 230 s.at := h
def addP (x s : W8) (k j : Nat) : BitVec 32 := if j < k then x.at j + s.at j else x.at j
theorem addP_all (x s : W8) : ∀ i, i < 8 → addP x s 8 i = (x.add s).at i := by
  intro i hi
  unfold addP
  rw [if_pos hi]
  match i, hi with
  | 0, _ => rfl
  | 1, _ => rfl
  | 2, _ => rfl
  | 3, _ => rfl
  | 4, _ => rfl
  | 5, _ => rfl
  | 6, _ => rfl
  | 7, _ => rfl
theorem rowS_add {w : World} {R : Nat} {X s : W8} (h : RowW w R 8 230 (addP X s 8)) : RowS w R (X.add s) := by
  have h2 := h.congr (addP_all X s)
  unfold RowS
  rw [W8.arr_wa]
  exact h2
theorem addP_start {w : World} {R : Nat} {X s : W8} (h : RowS w R X) : RowW w R 8 230 (addP X s 0) := by
  refine h.row.congr fun i _ => ?_
  unfold addP
  rw [if_neg (Nat.not_lt_zero _)]
theorem rds_succ (m : List UInt8) (s : W8) (k : Nat) : rds m s (k + 1) = rd (kv k) (wv m k) (rds m s k) := rfl
theorem rds_zero (m : List UInt8) (s : W8) : rds m s 0 = s := rfl
theorem copy_down {ops : Array Oper} {rest : List Oper} {op : Oper} {ac : Act} {w : World} {Q : Exit → Act → World → Prop} (hgd : op.guard = none) (d' s' : Operand)
    (ho : op.op = .call { callee := .builtin .copy, args := #[d', s'], argTypes := #[173, 173] }) {R : Nat} {a b c d e f g h : BitVec 32} (hx : RowS w R ⟨a, b, c, d, e, f, g, h⟩)
    (hd : ac.eval d' = .slice (some ⟨R, 1, none⟩) 7 7) (hs : ac.eval s' = .slice (some ⟨R, 0, none⟩) 7 8)
    (H : ∀ w', RowS w' R ⟨a, a, b, c, d, e, f, g⟩ → Below R w w' → wpList Tryz.prog ops Q rest (ac.put op.dst (goInt 7)) w') : wpList Tryz.prog ops Q (op :: rest) ac w := by
  refine wpList_copy_splice hgd d' s' 173 173 ho 216 (Tryz.underlying173) (by kernel_rfl) (some ⟨R, 1, none⟩) (some ⟨R, 0, none⟩) 7 7 7 8 hd hs R 1 (W8.arr ⟨a, b, c, d, e, f, g, h⟩).toList 230 hx [.int .u32 (wi a), .int .u32 (wi b), .int .u32 (wi c), .int .u32 (wi d), .int .u32 (wi e), .int .u32 (wi f), .int .u32 (wi g)] rfl (fun _ => ⟨rfl, _, rfl, fun j v hv => ?_⟩) (Nat.le_refl _) (by intro v hv; simp only [List.mem_cons, List.not_mem_nil, or_false] at hv; rcases hv with h | h | h | h | h | h | h <;> (rw [h]; rfl)) R w (Below.refl _ _) (Nat.le_refl _) (fun w' h1 h2 => H w' h1 h2)
  have hj : j < 7 := (List.getElem?_eq_some_iff.1 hv).1
  rw [show (⟨R, 0, none⟩ : Addr).add j = ⟨R, j, none⟩ from by unfold Addr.add; simp; exact fun h => h.symm]
  refine hx.cell j ?_
  rw [← hv]
  match j, hj with
  | 0, _ => rfl
  | 1, _ => rfl
  | 2, _ => rfl
  | 3, _ => rfl
  | 4, _ => rfl
  | 5, _ => rfl
  | 6, _ => rfl
theorem RowS.set4 {w : World} {B : Nat} {a b c d e f g h : BitVec 32} (H : RowS w B ⟨a, b, c, d, e, f, g, h⟩) (x : BitVec 32) : RowS (w.setCell ⟨B, 4, none⟩ (.int .u32 (wi x))) B ⟨a, b, c, d, x, f, g, h⟩ := block_setCell H _
theorem RowS.set0 {w : World} {B : Nat} {a b c d e f g h : BitVec 32} (H : RowS w B ⟨a, b, c, d, e, f, g, h⟩) (x : BitVec 32) : RowS (w.setCell ⟨B, 0, none⟩ (.int .u32 (wi x))) B ⟨x, b, c, d, e, f, g, h⟩ := block_setCell H _
set_option maxRecDepth 100000 in
set_option maxHeartbeats 2000000 in
theorem h_after (s : W8) (m : List UInt8) (b o cap : Nat) (w : World) (hm : BytesAt w (some ⟨b, o, none⟩) 64 cap m) : Calls Tryz.prog 229 #[.agg s.arr, .slice (some ⟨b, o, none⟩) 64 cap] w (Ret (.agg (blk s m).arr) w) := by
  have HM := Lib.hid hm
  clear hm
  obtain ⟨sa, hsa⟩ : ∃ a, s.arr = a := ⟨_, rfl⟩
  have HSA := Lib.hid hsa
  rw [hsa]
  obtain ⟨Y, hY⟩ : ∃ Y, blk s m = Y := ⟨_, rfl⟩
  have HY := Lib.hid hY
  rw [hY]
  clear hY
  clear hsa
  go_enter Tryz.func229, Tryz.ntmps229
  go_wp2_with fail
  obtain ⟨w0, hw0⟩ : ∃ w0, (w.alloc (.cells sa 230)).alloc (.cells #[.int .u32 0, .int .u32 0, .int .u32 0, .int .u32 0, .int .u32 0, .int .u32 0, .int .u32 0, .int .u32 0] 230) = w0 := ⟨_, rfl⟩
  have hb0 : Below w.heap.size w w0 := hw0 ▸ ((Below.refl _ _).alloc (Nat.le_refl _) _).alloc (by simp) _
  have hr0 : RowS w0 w.heap.size s := by rw [← hw0]; unfold RowS; rw [heap_alloc_old _ _ (by simp), HSA.out]; exact heap_alloc_new _ _
  have hz0 : w0.heap[w.heap.size + 1]? = some (.cells z8 230 (0, 0)) := by rw [← hw0]; exact heap_alloc2_new _ _ _
  rw [hw0]
  clear hw0
  refine (h_constants w0).mono ?_
  rintro e w1 ⟨rfl, hb1⟩
  dsimp only
  go_wp2_with fail
  refine (h_schedule m b o cap w1 ((HM.out.kept hb0).kept hb1)).mono ?_
  rintro e w2 ⟨rfl, hb2⟩
  dsimp only
  have hb02 : Below w0.heap.size w0 w2 := hb1.trans (hb2.mono hb1.size)
  have HB2 := Lib.hid (show Below w.heap.size w w2 from hb0.trans (hb02.mono hb0.size))
  have HR2 := Lib.hid (show RowS w2 w.heap.size s from hr0.kept hb02 hr0.lt)
  have HZ2 := Lib.hid (show w2.heap[w.heap.size + 1]? = some (.cells z8 230 (0, 0)) from (hb02.block _ (block_lt hz0)).trans hz0)
  clear hb0 hr0 hz0 hb1 hb2 hb02
  obtain ⟨H, hH⟩ : ∃ H, w.heap.size = H := ⟨_, rfl⟩
  rw [hH] at HB2 HR2 HZ2 ⊢
  go_step
  obtain ⟨hrk, hrw, hb6⟩ := two_rows w2 kv (wv m) 240
  obtain ⟨P, hP⟩ : ∃ P, w2.heap.size = P := ⟨_, rfl⟩
  have hHP : H + 1 < P := by rw [← hP]; exact block_lt HZ2.out
  have ek : ((w2.alloc (.cells z64 240)).alloc (.cells z64 240)).heap[P]? = some (.cells z64 240 (0, 0)) := by rw [← hP, heap_alloc_old _ _ (by simp)]; exact heap_alloc_new _ _
  have ew : (((w2.alloc (.cells z64 240)).alloc (.cells z64 240)).setRow P (wa 64 kv)).heap[P + 1]? = some (.cells z64 240 (0, 0)) := by rw [← hP, setRow_other _ _ _ _ (by omega)]; exact heap_alloc2_new _ _ _
  have ez : (w2.alloc (.cells z64 240)).heap.size = P + 1 := by rw [← hP]; exact World.size_alloc _ _
  refine Great.wpList_allocTo rfl _ rfl (.pointer (some ⟨P, 0, none⟩)) (.cells z64 240) (by rw [← hP]; kernel_rfl) ?_
  rw [hP] at hrk hrw hb6
  obtain ⟨w3, hw3⟩ : ∃ w3, w2.alloc (.cells z64 240) = w3 := ⟨_, rfl⟩
  rw [hw3] at hrk hrw hb6 ek ew ez ⊢
  refine Great.wpList_allocTo rfl _ rfl (.pointer (some ⟨P + 1, 0, none⟩)) (.cells z64 240) (by rw [← ez]; kernel_rfl) ?_
  refine wpList_store_rowTo rfl 240 _ _ rfl rfl P (wa 64 kv) (by kernel_rfl) (by kernel_rfl) 240 z64 ek (by rw [wa_size]; kernel_rfl) (by rw [wa_size]; kernel_rfl) (wa_one _ _) ?_
  refine wpList_store_rowTo rfl 240 _ _ rfl rfl (P + 1) (wa 64 (wv m)) (by kernel_rfl) (by kernel_rfl) 240 z64 ew (by rw [wa_size]; kernel_rfl) (by rw [wa_size]; kernel_rfl) (wa_one _ _) ?_
  obtain ⟨w6, hw6⟩ : ∃ w6, ((w3.alloc (.cells z64 240)).setRow P (wa 64 kv)).setRow (P + 1) (wa 64 (wv m)) = w6 := ⟨_, rfl⟩
  rw [hw6] at hrk hrw hb6 ⊢
  have HB6 := Lib.hid (show Below H w w6 from HB2.out.trans (hb6.mono (by omega)))
  have HR6 := Lib.hid (show RowS w6 H s from HR2.out.kept hb6 (by omega))
  have HZ6 := Lib.hid (show w6.heap[H + 1]? = some (.cells z8 230 (0, 0)) from (hb6.block _ (by omega)).trans HZ2.out)
  have HK := Lib.hid hrk
  have HW := Lib.hid hrw
  clear hw6 ek ew ez hw3 hrk hrw hb6 HB2 HR2 HZ2
  have hz6 : w6.heap.size = w6.heap.size := rfl
  iterate 5 go_step
  refine wpList_load_row rfl 230 _ rfl H rfl 230 s.arr (0, 0) _ HR6.out Tryz.underlying230 rfl (by kernel_rfl) ?_
  obtain ⟨R, hR⟩ : ∃ R, w6.heap.size = R := ⟨_, rfl⟩
  refine Great.wpList_allocTo rfl _ rfl (.pointer (some ⟨R, 0, none⟩)) (.cells z8 230) (by rw [← hR]; kernel_rfl) ?_
  refine wpList_store_rowTo rfl 230 _ _ rfl rfl R s.arr (by kernel_rfl) (by kernel_rfl) 230 z8 (by rw [← hR]; exact heap_alloc_new _ _) (by kernel_rfl) (by kernel_rfl) (W8.arr_one _) ?_
  rw [← hR, World.setRow_alloc_new]
  obtain ⟨w7, hw7⟩ : ∃ w7, w6.alloc (.cells s.arr 230) = w7 := ⟨_, rfl⟩
  have hb7 : Below R w6 w7 := hR ▸ hw7 ▸ (Below.refl _ _).alloc (Nat.le_refl _) _
  have hPR : P + 1 < R := by rw [← hR]; exact block_lt HW.out
  have HX := Lib.hid (show RowS w7 R s from by rw [← hw7, ← hR]; exact heap_alloc_new _ _)
  have HB := Lib.hid (show Below H w w7 from HB6.out.trans (hb7.mono (by omega)))
  have HS := Lib.hid (show RowS w7 H s from HR6.out.kept hb7 (by omega))
  have HZ := Lib.hid (show w7.heap[H + 1]? = some (.cells z8 230 (0, 0)) from (hb7.block _ (by omega)).trans HZ6.out)
  have HK7 := Lib.hid (HK.out.kept hb7 (by omega))
  have HW7 := Lib.hid (HW.out.kept hb7 (by omega))
  rw [hw7, hR]
  clear hw7 hb7 HB6 HR6 HZ6 HK HW hz6
  go_wp2
  go_loopw [22] (fun i wr => ∃ k : Nat, k ≤ 64 ∧ i = .int .i64 k ∧ RowS wr R (rds m s k) ∧ Below R w7 wr) (fun i _ => 64 - (intOf i).toNat)
  case atStart => exact ⟨0, by omega, rfl, by rw [rds_zero]; exact HX.out, Below.refl _ _⟩
  case round =>
    obtain ⟨k, hk, rfl, hx, hb⟩ := hrel
    have HX2 := Lib.hid hx
    have HBR := Lib.hid hb
    clear hx hb
    by_cases hlt : k < 64
    · have hlti : (k : Int) < 64 := by omega
      obtain ⟨⟨a, b', c, d, e, f, g, hh⟩, hst⟩ : ∃ x, rds m s k = x := ⟨_, rfl⟩
      have HST := Lib.hid hst
      rw [hst] at HX2
      clear hst
      obtain ⟨c0, c1, c2, c3, c4, c5, c6, c7⟩ := HX2.out.drew.c8
      clear c3 c7
      obtain ⟨_, _, _, _, _, _, _, c7⟩ := HX2.out.drew.drew.c8
      have ck := (HK7.out.kept HBR.out (by omega)).drew.drew.cell hlt
      have cw := (HW7.out.kept HBR.out (by omega)).drew.drew.cell hlt
      obtain ⟨kk, hkk⟩ : ∃ x, kv k = x := ⟨_, rfl⟩
      obtain ⟨ww, hww⟩ : ∃ x, wv m k = x := ⟨_, rfl⟩
      rw [hkk] at ck
      rw [hww] at cw
      have HKK := Lib.hid hkk
      have HWW := Lib.hid hww
      clear hkk hww
      obtain ⟨wd, hwd⟩ : ∃ wd, wr.drew = wd := ⟨_, rfl⟩
      obtain ⟨we, hwe⟩ : ∃ we, wd.drew = we := ⟨_, rfl⟩
      rw [hwd] at c0 c1 c2 c4 c5 c6 c7 ck cw
      rw [hwe] at c7 ck cw
      go_wp2
      refine wp_region_K 18 (Eq wd) (by kernel_rfl) ?_
      intro hD
      rw [hwd]
      have KK1 := Lib.hid (fun w' (hS' : (Eq wd) w') => And.intro ((hS' ▸ c0)) (And.intro ((hS' ▸ c1)) (And.intro ((hS' ▸ c2)) (And.intro ((hS' ▸ c4)) (And.intro ((hS' ▸ c5)) ((hS' ▸ c6)))))))
      refine rP 0 25 17 rfl hD rfl ?_; clear hD; intro hD; simp only [Act.put, sqA, sqB, sqC]
      refine rT 1 26 16 rfl hD rfl (by intro w' hS'; obtain ⟨e0, e1, e2, e3, e4, e5⟩ := KK1.out w' hS'; go_simp; with_reducible rfl) ?_; clear hD; intro hD; simp only [Act.put, sqA, sqB, sqC]
      refine rP 2 27 15 rfl hD rfl ?_; clear hD; intro hD; simp only [Act.put, sqA, sqB, sqC]
      refine rT 3 28 14 rfl hD rfl (by intro w' hS'; obtain ⟨e0, e1, e2, e3, e4, e5⟩ := KK1.out w' hS'; go_simp; with_reducible rfl) ?_; clear hD; intro hD; simp only [Act.put, sqA, sqB, sqC]
      refine rP 4 29 13 rfl hD rfl ?_; clear hD; intro hD; simp only [Act.put, sqA, sqB, sqC]
      refine rT 5 30 12 rfl hD rfl (by intro w' hS'; obtain ⟨e0, e1, e2, e3, e4, e5⟩ := KK1.out w' hS'; go_simp; with_reducible rfl) ?_; clear hD; intro hD; simp only [Act.put, sqA, sqB, sqC]
      refine rP 6 31 11 rfl hD rfl ?_; clear hD; intro hD; simp only [Act.put, sqA, sqB, sqC]
      refine rT 7 32 10 rfl hD rfl (by intro w' hS'; obtain ⟨e0, e1, e2, e3, e4, e5⟩ := KK1.out w' hS'; go_simp; with_reducible rfl) ?_; clear hD; intro hD; simp only [Act.put, sqA, sqB, sqC]
      refine rP 8 33 9 rfl hD rfl ?_; clear hD; intro hD; simp only [Act.put, sqA, sqB, sqC]
      refine rT 9 34 8 rfl hD rfl (by intro w' hS'; obtain ⟨e0, e1, e2, e3, e4, e5⟩ := KK1.out w' hS'; go_simp; with_reducible rfl) ?_; clear hD; intro hD; simp only [Act.put, sqA, sqB, sqC]
      refine rP 10 35 7 rfl hD rfl ?_; clear hD; intro hD; simp only [Act.put, sqA, sqB, sqC]
      refine rT 11 36 6 rfl hD rfl (by intro w' hS'; obtain ⟨e0, e1, e2, e3, e4, e5⟩ := KK1.out w' hS'; go_simp; with_reducible rfl) ?_; clear hD; intro hD; simp only [Act.put, sqA, sqB, sqC]
      refine rO 12 5 rfl hD ?_; clear hD; intro K12 hK12
      go_wp2
      refine hK12 _ _ (by rfl) ?_; clear hK12; intro hS_6_12 hD
      refine rO 13 4 rfl hD ?_; clear hD; intro K13 hK13
      go_wp2
      refine hK13 _ _ (by rfl) ?_; clear hK13; intro hS_6_13 hD
      refine rO 14 3 rfl hD ?_; clear hD; intro K14 hK14
      go_wp2
      refine hK14 _ _ (by rfl) ?_; clear hK14; intro hS_6_14 hD
      refine rO 15 2 rfl hD ?_; clear hD; intro K15 hK15
      go_wp2
      refine hK15 _ _ (by rfl) ?_; clear hK15; intro hS_6_15 hD
      refine rO 16 1 rfl hD ?_; clear hD; intro K16 hK16
      go_wp2
      refine hK16 _ _ (by rfl) ?_; clear hK16; intro hS_6_16 hD
      refine rO 17 0 rfl hD ?_; clear hD; intro K17 hK17
      go_wp2
      refine hK17 _ _ (by rfl) ?_; clear hK17; intro hS_6_17 hD
      refine wpAnyK_done (by kernel_rfl) ?_ 0
      clear hD
      go_wp2
      refine wp_region_K 29 (Eq we) (by kernel_rfl) ?_
      intro hD
      rw [hwe]
      refine rP 0 37 28 rfl hD rfl ?_; clear hD; intro hD; simp only [Act.put, sqA, sqB, sqC]
      refine rT 1 38 27 rfl hD rfl (by intro w' hS'; have e0 := (hS' ▸ c7); have e1 := (hS' ▸ ck); have e2 := (hS' ▸ cw); go_simp; with_reducible rfl) ?_; clear hD; intro hD; simp only [Act.put, sqA, sqB, sqC]
      refine rP 2 39 26 rfl hD rfl ?_; clear hD; intro hD; simp only [Act.put, sqA, sqB, sqC]
      refine rP 4 41 25 rfl hD rfl ?_; clear hD; intro hD; simp only [Act.put, sqA, sqB, sqC]
      refine rP 7 44 24 rfl hD rfl ?_; clear hD; intro hD; simp only [Act.put, sqA, sqB, sqC]
      refine rP 11 48 23 rfl hD rfl ?_; clear hD; intro hD; simp only [Act.put, sqA, sqB, sqC]
      refine rP 12 49 22 rfl hD rfl ?_; clear hD; intro hD; simp only [Act.put, sqA, sqB, sqC]
      refine rP 13 50 21 rfl hD rfl ?_; clear hD; intro hD; simp only [Act.put, sqA, sqB, sqC]
      refine rP 14 51 20 rfl hD rfl ?_; clear hD; intro hD; simp only [Act.put, sqA, sqB, sqC]
      refine rP 15 52 19 rfl hD rfl ?_; clear hD; intro hD; simp only [Act.put, sqA, sqB, sqC]
      refine rP 16 53 18 rfl hD rfl ?_; clear hD; intro hD; simp only [Act.put, sqA, sqB, sqC]
      refine rP 17 54 17 rfl hD rfl ?_; clear hD; intro hD; simp only [Act.put, sqA, sqB, sqC]
      refine rP 18 55 16 rfl hD rfl ?_; clear hD; intro hD; simp only [Act.put, sqA, sqB, sqC]
      refine rP 20 57 15 rfl hD rfl ?_; clear hD; intro hD; simp only [Act.put, sqA, sqB, sqC]
      refine rP 21 58 14 rfl hD rfl ?_; clear hD; intro hD; simp only [Act.put, sqA, sqB, sqC]
      refine rT 22 59 13 rfl hD rfl (by intro w' hS'; have e0 := (hS' ▸ c7); have e1 := (hS' ▸ ck); have e2 := (hS' ▸ cw); go_simp; with_reducible rfl) ?_; clear hD; intro hD; simp only [Act.put, sqA, sqB, sqC]
      refine rP 24 61 12 rfl hD rfl ?_; clear hD; intro hD; simp only [Act.put, sqA, sqB, sqC]
      refine rP 25 62 11 rfl hD rfl ?_; clear hD; intro hD; simp only [Act.put, sqA, sqB, sqC]
      refine rT 26 63 10 rfl hD rfl (by intro w' hS'; have e0 := (hS' ▸ c7); have e1 := (hS' ▸ ck); have e2 := (hS' ▸ cw); go_simp; with_reducible rfl) ?_; clear hD; intro hD; simp only [Act.put, sqA, sqB, sqC]
      refine rO 3 9 rfl hD ?_; clear hD; intro K3 hK3
      go_wp2_with fail
      refine (h_turn e 6 (by decide) (by decide) _).mono ?_
      rintro e' w1 ⟨rfl, rfl⟩
      go_wp2
      refine hK3 _ _ (by rfl) ?_; clear hK3; intro hS_7_3 hD
      refine rO 5 8 rfl hD ?_; clear hD; intro K5 hK5
      go_wp2_with fail
      refine (h_turn e 11 (by decide) (by decide) _).mono ?_
      rintro e' w1 ⟨rfl, rfl⟩
      go_wp2
      refine hK5 _ _ (by rfl) ?_; clear hK5; intro hS_7_5 hD
      refine rP 6 43 7 rfl hD hS_7_5 ?_; clear hD; intro hD; simp only [Act.put, sqA, sqB, sqC]
      refine rO 8 6 rfl hD ?_; clear hD; intro K8 hK8
      go_wp2_with fail
      refine (h_turn e 25 (by decide) (by decide) _).mono ?_
      rintro e' w1 ⟨rfl, rfl⟩
      go_wp2
      refine hK8 _ _ (by rfl) ?_; clear hK8; intro hS_7_8 hD
      refine rP 9 46 5 rfl hD hS_7_8 ?_; clear hD; intro hD; simp only [Act.put, sqA, sqB, sqC]
      refine rP 10 47 4 rfl hD hS_7_8 ?_; clear hD; intro hD; simp only [Act.put, sqA, sqB, sqC]
      refine rP 19 56 3 rfl hD hS_7_8 ?_; clear hD; intro hD; simp only [Act.put, sqA, sqB, sqC]
      refine rP 23 60 2 rfl hD hS_7_8 ?_; clear hD; intro hD; simp only [Act.put, sqA, sqB, sqC]
      refine rP 27 64 1 rfl hD hS_7_8 ?_; clear hD; intro hD; simp only [Act.put, sqA, sqB, sqC]
      refine rO 28 0 rfl hD ?_; clear hD; intro K28 hK28
      go_wp2
      refine hK28 _ _ (by rfl) ?_; clear hK28; intro hS_7_28 hD
      refine wpAnyK_done (by kernel_rfl) ?_ 0
      clear hD
      clear c0 c1 c2 c4 c5 c6 c7 ck cw
      rw [tv_val]
      obtain ⟨T, hT⟩ : ∃ T, hh + (rr e 6 ^^^ rr e 11 ^^^ rr e 25) + (e &&& f ^^^ ~~~ e &&& g) + kk + ww = T := ⟨_, rfl⟩
      have HT := Lib.hid hT
      rw [hT]
      clear hT
      go_wp2_with fail
      refine (h_turn a 2 (by decide) (by decide) _).mono ?_
      rintro e' w1 ⟨rfl, rfl⟩
      go_wp2_with fail
      refine (h_turn a 13 (by decide) (by decide) _).mono ?_
      rintro e' w1 ⟨rfl, rfl⟩
      go_wp2_with fail
      refine (h_turn a 22 (by decide) (by decide) _).mono ?_
      rintro e' w1 ⟨rfl, rfl⟩
      go_wp2
      rw [uv_val]
      obtain ⟨U, hU⟩ : ∃ U, (rr a 2 ^^^ rr a 13 ^^^ rr a 22) + (a &&& b' ^^^ a &&& c ^^^ b' &&& c) = U := ⟨_, rfl⟩
      have HU := Lib.hid hU
      rw [hU]
      clear hU
      obtain ⟨wf, hwf⟩ : ∃ wf, we.drew = wf := ⟨_, rfl⟩
      have HXF := Lib.hid (show RowS wf R ⟨a, b', c, d, e, f, g, hh⟩ from by rw [← hwf, ← hwe, ← hwd]; exact HX2.out)
      have HBF := Lib.hid (show Below R w7 wf from by rw [← hwf, ← hwe, ← hwd]; exact HBR.out.drew.drew.drew)
      refine wp_region_K 2 (Eq wf) (by kernel_rfl) ?_
      intro hD
      rw [hwf]
      refine wpAnyK_pureD (i := 0) (d := some 85) (v := ?v9_0b3) (fuel := 2) rfl (by kernel_rfl) (by kernel_rfl) (fun _ _ _ h => h) hD rfl (.inl ⟨by kernel_rfl, ?y9_0b3⟩) ?n9_0b3
      case y9_0b3 => intro w' _; go_simp; with_reducible rfl
      clear hD; intro hD
      simp only [Act.put, sqA, sqB, sqC]
      refine wpAnyK_pureD (i := 1) (d := some 86) (v := ?v9_1b3) (fuel := 1) rfl (by kernel_rfl) (by kernel_rfl) (fun _ _ _ h => h) hD rfl (.inl ⟨by kernel_rfl, ?y9_1b3⟩) ?n9_1b3
      case y9_1b3 => intro w' _; go_simp; with_reducible rfl
      clear hD; intro hD
      simp only [Act.put, sqA, sqB, sqC]
      refine wpAnyK_oneT (i := 2) (fuel := 0) (by kernel_rfl) rfl hD (by kernel_rfl) ?_; clear hD; intro K2 hK2
      refine copy_down rfl (.tmp 85) (.tmp 86) rfl HXF.out rfl rfl ?_
      intro wg hxg hbg
      have HXG := Lib.hid hxg
      have HBG := Lib.hid (show Below R w7 wg from HBF.out.trans hbg)
      clear hxg hbg
      go_wp2
      refine hK2 _ _ ?_; clear hK2; intro hD
      refine wpAnyK_done (by kernel_rfl) ?_ 0
      clear hD
      obtain ⟨g0, g1, g2, g3, g4, g5, g6, g7⟩ := HXG.out.c8
      have gf0 := HXG.out.free 0
      have gf4 := HXG.out.free 4
      clear g1 g2 g3 g5 g6 g7
      go_wp2
      rw [mod_val, mod_val]
      go_roundw
      case rel =>
        refine ⟨k + 1, by omega, by go_num, ?_, ?_⟩
        · rw [rds_succ, HST.out, HKK.out, HWW.out]
          have := (HXG.out.set4 (d + T)).set0 (T + U)
          rw [← HT.out, ← HU.out] at this ⊢
          exact this
        · exact (HBG.out.setCell (Nat.le_refl _) _).setCell (Nat.le_refl _) _
      case measure => simp [intOf]; omega
    · have HK64 := Lib.hid (show k = 64 from by omega)
      have hge : ¬ ((k : Int) < 64) := by omega
      clear hk hlt
      have HX3 := Lib.hid (show RowS wr R (rds m s 64) from by rw [← HK64.out]; exact HX2.out)
      have HS3 := Lib.hid (HS.out.kept HBR.out (by omega))
      have HZ3 := Lib.hid (show wr.heap[H + 1]? = some (.cells z8 230 (0, 0)) from (HBR.out.block _ (by omega)).trans HZ.out)
      have HB3 := Lib.hid (show Below H w wr from HB.out.trans (HBR.out.mono (by omega)))
      clear HX2 HK64 HX HS HZ HB HK7 HW7 HBR
      go_wp2
      obtain ⟨X, hX⟩ : ∃ X, rds m s 64 = X := ⟨_, rfl⟩
      rw [hX] at HX3
      have HXX := Lib.hid hX
      clear hX
      go_loopw [98] (fun i wq => ∃ q : Nat, q ≤ 8 ∧ i = .int .i64 q ∧ RowW wq R 8 230 (addP X s q) ∧ Below R wr wq) (fun i _ => 8 - (intOf i).toNat)
      case atStart => exact ⟨0, by omega, rfl, addP_start HX3.out, Below.refl _ _⟩
      case round =>
        obtain ⟨q, hq, rfl, hx, hb⟩ := hrel
        have HXQ := Lib.hid hx
        have HBQ := Lib.hid hb
        clear hx hb
        by_cases hq8 : q < 8
        · have hqi : (q : Int) < 8 := by omega
          have c0 := HXQ.out.drew.cell hq8
          have c1 := (HS3.out.row.kept HBQ.out (by omega)).drew.cell hq8
          have hf := HXQ.out.drew.free q
          obtain ⟨x, hx⟩ : ∃ x, addP X s q q = x := ⟨_, rfl⟩
          obtain ⟨y, hy⟩ : ∃ x, s.at q = x := ⟨_, rfl⟩
          have HE := Lib.hid (show addP X s (q + 1) q = x + y from by rw [← hx, ← hy]; unfold addP; rw [if_pos (by omega), if_neg (by omega)])
          rw [hx] at c0
          rw [hy] at c1
          clear hx hy
          obtain ⟨wd, hwd⟩ : ∃ wd, wr.drew = wd := ⟨_, rfl⟩
          rw [hwd] at c0 c1 hf
          go_wp2
          refine wp_region_K 8 (Eq wd) (by kernel_rfl) ?_
          intro hD
          rw [hwd]
          refine wpAnyK_pureD (i := 0) (d := some 101) (v := ?v16_0b4) (fuel := 8) rfl (by kernel_rfl) (by kernel_rfl) (fun _ _ _ h => h) hD rfl (.inl ⟨by kernel_rfl, ?y16_0b4⟩) ?n16_0b4
          case y16_0b4 => intro w' _; go_simp; with_reducible rfl
          clear hD; intro hD
          simp only [Act.put, sqA, sqB, sqC]
          refine wpAnyK_pureD (i := 1) (d := some 102) (v := ?v16_1b4) (fuel := 7) rfl (by kernel_rfl) (by kernel_rfl) (fun _ _ _ h => h) hD rfl (.inl ⟨by kernel_rfl, ?y16_1b4⟩) ?n16_1b4
          case y16_1b4 => intro w' _; go_simp; with_reducible rfl
          clear hD; intro hD
          simp only [Act.put, sqA, sqB, sqC]
          refine wpAnyK_takeD (i := 2) (d := some 103) (v := ?v16_2b4) (fuel := 6) rfl (by kernel_rfl) (by kernel_rfl) (by kernel_rfl) (fun _ _ _ h => h) hD rfl (.inl ⟨by kernel_rfl, ?y16_2b4⟩) ?n16_2b4
          case y16_2b4 => intro w' hS'; have e0 := (hS' ▸ c0); have e1 := (hS' ▸ c1); go_simp; with_reducible rfl
          clear hD; intro hD
          simp only [Act.put, sqA, sqB, sqC]
          refine wpAnyK_pureD (i := 3) (d := some 104) (v := ?v16_3b4) (fuel := 5) rfl (by kernel_rfl) (by kernel_rfl) (fun _ _ _ h => h) hD rfl (.inl ⟨by kernel_rfl, ?y16_3b4⟩) ?n16_3b4
          case y16_3b4 => intro w' _; go_simp; with_reducible rfl
          clear hD; intro hD
          simp only [Act.put, sqA, sqB, sqC]
          refine wpAnyK_pureD (i := 4) (d := some 105) (v := ?v16_4b4) (fuel := 4) rfl (by kernel_rfl) (by kernel_rfl) (fun _ _ _ h => h) hD rfl (.inl ⟨by kernel_rfl, ?y16_4b4⟩) ?n16_4b4
          case y16_4b4 => intro w' _; go_simp; with_reducible rfl
          clear hD; intro hD
          simp only [Act.put, sqA, sqB, sqC]
          refine wpAnyK_takeD (i := 5) (d := some 106) (v := ?v16_5b4) (fuel := 3) rfl (by kernel_rfl) (by kernel_rfl) (by kernel_rfl) (fun _ _ _ h => h) hD rfl (.inl ⟨by kernel_rfl, ?y16_5b4⟩) ?n16_5b4
          case y16_5b4 => intro w' hS'; have e0 := (hS' ▸ c0); have e1 := (hS' ▸ c1); go_simp; with_reducible rfl
          clear hD; intro hD
          simp only [Act.put, sqA, sqB, sqC]
          refine wpAnyK_pureD (i := 6) (d := some 107) (v := ?v16_6b4) (fuel := 2) rfl (by kernel_rfl) (by kernel_rfl) (fun _ _ _ h => h) hD rfl (.inl ⟨by kernel_rfl, ?y16_6b4⟩) ?n16_6b4
          case y16_6b4 => intro w' _; go_simp; with_reducible rfl
          clear hD; intro hD
          simp only [Act.put, sqA, sqB, sqC]
          refine wpAnyK_pureD (i := 7) (d := some 108) (v := ?v16_7b4) (fuel := 1) rfl (by kernel_rfl) (by kernel_rfl) (fun _ _ _ h => h) hD rfl (.inl ⟨by kernel_rfl, ?y16_7b4⟩) ?n16_7b4
          case y16_7b4 => intro w' _; go_simp; with_reducible rfl
          clear hD; intro hD
          simp only [Act.put, sqA, sqB, sqC]
          refine wpAnyK_oneT (i := 8) (fuel := 0) (by kernel_rfl) rfl hD (by kernel_rfl) ?_; clear hD; intro K8 hK8
          go_wp2
          refine hK8 _ _ ?_; clear hK8; intro hD
          refine wpAnyK_done (by kernel_rfl) ?_ 0
          clear hD
          clear c0 c1 hf
          rw [mod_val]
          go_wp2
          go_roundw
          case rel =>
            refine ⟨q + 1, by omega, by go_num, ?_, ?_⟩
            · rw [← hwd]
              refine (HXQ.out.drew.set q (x + y)).congr fun i hi => ?_
              by_cases e : i = q
              · rw [if_pos e, e, HE.out]
              · rw [if_neg e]; unfold addP
                by_cases h : i < q
                · rw [if_pos h, if_pos (by omega)]
                · rw [if_neg h, if_neg (by omega)]
            · rw [← hwd]; exact HBQ.out.drew.setCell (Nat.le_refl _) _
          case measure => simp [intOf]; omega
        · have HQ := Lib.hid (show q = 8 from by omega)
          have hqe : ¬ ((q : Int) < 8) := by omega
          clear hq hq8
          have HXE := Lib.hid (show RowS wr R Y from by
            have h := HXQ.out
            rw [HQ.out] at h
            rw [← HY.out]
            unfold blk
            rw [HXX.out]
            exact rowS_add h)
          have HZE := Lib.hid (show wr.heap[H + 1]? = some (.cells z8 230 (0, 0)) from (HBQ.out.block _ (by omega)).trans HZ3.out)
          have HBE := Lib.hid (show Below H w wr from HB3.out.trans (HBQ.out.mono (by omega)))
          clear HXQ HBQ HX3 HS3 HZ3 HB3
          go_wp2_with (first
            | refine wpList_load_row rfl 230 _ rfl R rfl 230 Y.arr (0, 0) _ HXE.out Tryz.underlying230 rfl (by kernel_rfl) ?_
            | refine wpList_store_rowTo rfl 230 _ _ rfl rfl (H + 1) Y.arr rfl rfl 230 z8 HZE.out (by kernel_rfl) (by kernel_rfl) (W8.arr_one _) ?_)
          refine bodyPost_ret (v := .agg Y.arr) (results_cell_row rfl _ _ (H + 1) 230 Y.arr (0, 0) _ rfl (setRow_heap _ _ _ _ _ _ HZE.out) Tryz.underlying230 rfl (by kernel_rfl)) rfl ⟨rfl, ?_⟩
          rw [hH]
          exact below_setRow HBE.out (by omega) _
end Go.Proofs.YtndmjfkmnjejkaaGreatDoor
/- Rows of bytes that a function lays and fills: made with room, copied into, appended to. -/
set_option linter.unusedVariables false
set_option linter.unusedSimpArgs false
namespace Go.Proofs.YtndmjfkmnjejkaaGreatDoor
open Go.RowKit Go.Lib
theorem byte_info : (Tryz.prog.info? 5).map (fun i => (i.zero, i.size, i.bytes)) = some (some (.int .u8 0), 1, 1) := by kernel_rfl
theorem make_room (n c : Nat) (hn : n ≤ c) (hc : c ≤ 281474976710656) (w : World) : (Instr.makeSlice 125 (.int .i64 n) (.int .i64 c)).run Tryz.prog w = .ok (.slice (some ⟨w.heap.size, 0, none⟩) n c) (w.alloc (.cells (madeCells #[.int .u8 0] c) 5)) := by
  obtain ⟨i0, hi, hz0, hz1, hz2⟩ := info_parts byte_info
  have h := run_make (P := Tryz.prog) w 125 5 i0 (.int .u8 0) Tryz.underlying125 hi hz0 .i64 .i64 (n : Int) (c : Int) (by omega) (by omega) (by rw [hz2]; omega) (by omega)
  rw [h, hz1, Int.toNat_natCast, Int.toNat_natCast, Nat.mul_one]
  rfl
def MsgAt (w : World) (g cap : Nat) (l : List UInt8) : Prop := w.ownsRow g 5 1 (.slice (some ⟨g, 0, none⟩) l.length cap) l.length (byteCells l)
theorem MsgAt.kept {w w' : World} {g cap : Nat} {l : List UInt8} (h : MsgAt w g cap l) (hb : Below w.heap.size w w') : MsgAt w' g cap l := owns_kept h hb (Nat.le_refl _)
theorem MsgAt.lt {w : World} {g cap : Nat} {l : List UInt8} (h : MsgAt w g cap l) : g < w.heap.size := (World.ownsRow.lt h g rfl).2
theorem MsgAt.room {w : World} {g cap : Nat} {l : List UInt8} (h : MsgAt w g cap l) : l.length ≤ cap ∧ cap ≤ maxLen := by
  rcases h.2 with ⟨h, _⟩ | ⟨g', cap', cur, hv, _, _, h1, h2, _⟩
  · cases h
  · cases hv; exact ⟨h1, h2⟩
theorem MsgAt.bytes {w : World} {g cap : Nat} {l : List UInt8} (h : MsgAt w g cap l) : BytesAt w (some ⟨g, 0, none⟩) l.length cap l := by
  refine ⟨rfl, h.room.1, by have := h.room.2; unfold maxLen at this; omega, fun _ => ⟨g, 0, rfl, fun k hk => ?_⟩⟩
  have := World.ownsRow.cells h rfl k (.int .u8 (byteI l k)) (by
    unfold byteCells byteI
    rw [List.getElem?_map, List.getElem?_eq_getElem hk, List.getD_eq_getElem?_getD, List.getElem?_eq_getElem hk]
    rfl)
  rwa [Addr.add_lit] at this
theorem copied (w : World) (s : ByteArray) (c : Nat) (hs : s.size ≤ c) (hc : c ≤ maxLen) :
    MsgAt ((w.alloc (.cells (madeCells #[.int .u8 0] c) 5)).setRow w.heap.size (((madeCells #[.int .u8 0] c).toList.take 0 ++ byteCells s.data.toList ++ (madeCells #[.int .u8 0] c).toList.drop (0 + s.size)).toArray)) w.heap.size c s.data.toList := by
  have hl : s.data.toList.length = s.size := Array.length_toList
  refine ⟨by simp [byteCells], .inr ⟨w.heap.size, c, _, rfl, Nat.le_refl _, setRow_heap _ _ _ _ _ _ (heap_alloc_new _ _), by omega, hc, ?_, ?_⟩⟩
  · simp [byteCells_length, hl, size_madeCells]; omega
  · simp [byteCells_length]
theorem copied_below (w : World) (A B : Array Value) (T : TypeId) : Below w.heap.size w ((w.alloc (.cells A T)).setRow w.heap.size B) := below_setRow ((Below.refl _ _).alloc (Nat.le_refl _) _) (Nat.le_refl _) _
theorem wpList_append_msg (w : World) {ops : Array Oper} {rest : List Oper} {o : Oper} {a : Act} {Q : Exit → Act → World → Prop} (hg : o.guard = none) (s x : Operand) (hop : o.op = Op.call { callee := Callee.builtin Builtin.append, args := #[s, x], argTypes := #[125, 125] })
    (g cap k m : Nat) (xs ys : List UInt8) (hk : xs.length = k) (hl : ys.length = m) (hs : a.eval s = .slice (some ⟨g, 0, none⟩) k cap) (hm : MsgAt w g cap xs) (B c : Nat) (hx : a.eval x = .slice (some ⟨B, 0, none⟩) m c) {T : TypeId} {fr : Nat × Nat}
    (hB : w.heap[B]? = some (.cells (byteCells ys).toArray T fr)) (hr : k + m ≤ cap)
    (hK : ∀ w', MsgAt w' g cap (xs ++ ys) → Below g w w' → wpList Tryz.prog ops Q rest (a.put o.dst (.slice (some ⟨g, 0, none⟩) (k + m) cap)) w') : wpList Tryz.prog ops Q (o :: rest) a w := by
  subst hk hl
  obtain ⟨i0, hi, hz0, hz1, hz2⟩ := info_parts byte_info
  refine wpList_append_fits w hg s x 125 hop g 5 i0 1 Tryz.underlying125 hi hz1 g xs.length cap (byteCells xs) hs hm ⟨B, 0, none⟩ ys.length c (byteCells ys) hx (by simp [byteCells]) (fun j u hj => ?_) (byteCells_one ys) hr (fun w' h1 h2 => hK w' ?_ ?_)
  · rw [Addr.add_lit, Nat.zero_add, Lib.cell_of_heap hB]; simpa using hj
  · unfold MsgAt; rw [byteCells_append, List.length_append]; exact h1
  · exact ⟨h2.os, h2.tape, h2.output, h2.size, fun k hk => h2.block k (by have := hm.lt; omega) (by simp; omega)⟩
theorem wpList_copy_ran {P : Program} (w : World) {ops : Array Oper} {rest : List Oper} {o : Oper} {a : Act} {Q : Exit → Act → World → Prop} (hgd : o.guard = none) (d s : Operand) (t t' : TypeId)
    (ho : o.op = .call { callee := .builtin .copy, args := #[d, s], argTypes := #[t, t'] }) (v u : Value) (hd : a.eval d = v) (hs : a.eval s = u) {v' : Value} {w' : World}
    (hr : (Builtin.copy_ #[t, t'] o.type #[v, u]).run P w = .ok v' w') (h : wpList P ops Q rest (a.put o.dst v') w') : wpList P ops Q (o :: rest) a w := by
  refine wpList_plain hgd fun K hK => ?_
  unfold Oper.wp
  simp [execOp, ho, resolve, invoke, builtin, hd, hs, hr, Result.andThen]
  exact hK _ _ h
theorem copy_run (w : World) (s : ByteArray) (n c : Nat) (hs : s.size = n) (hc : n ≤ c) (ty : TypeId) :
    (Builtin.copy_ #[125, 9] ty #[.slice (some ⟨w.heap.size, 0, none⟩) n c, .string s]).run Tryz.prog (w.alloc (.cells (madeCells #[.int .u8 0] c) 5)) =
      .ok (goInt n) ((w.alloc (.cells (madeCells #[.int .u8 0] c) 5)).setRow w.heap.size (((madeCells #[.int .u8 0] c).toList.take 0 ++ byteCells s.data.toList ++ (madeCells #[.int .u8 0] c).toList.drop (0 + s.size)).toArray)) := by
  subst hs
  exact run_copy_row_string _ _ _ _ 5 _ _ _ _ _ _ _ Tryz.underlying125 (by kernel_rfl) (heap_alloc_new _ _) (Nat.le_refl _) (by rw [size_madeCells]; omega)
theorem load_row_run {P : Program} {op : Oper} {ρ : Operand → Value} {w : World} (ty : TypeId) (x : Operand) (ho : op.op = .load ty x) (g : Nat) (hx : ρ x = .pointer (some ⟨g, 0, none⟩)) {t : TypeId} {cs : Array Value} {fr : Nat × Nat} (d : TypeDesc)
    (hg : w.heap[g]? = some (.cells cs t fr)) (hu : P.underlying ty = some d) (hd : (match d with | .struct _ | .array _ _ => true | _ => false) = true) (hi : (P.info? ty).map (·.size) = some cs.size) :
    (execOp ρ op).run P w = .ok (.value (.agg cs)) w := by
  unfold execOp
  simp only [ho, hx, Instr.loadAt, Instr.sureAddr, Sem.run_bind, Sem.run_pure, Result.andThen_ok, run_loadVar_row w g t ty cs fr d hg hu hd hi]
theorem BytesAt.front {w : World} {A : Option Addr} {n c : Nat} {l : List UInt8} (h : BytesAt w A n c l) (k : Nat) (hk : k ≤ n) : BytesAt w A k c (l.take k) := by
  obtain ⟨h1, h2, h3, h4⟩ := h
  refine ⟨by simp [h1]; omega, by omega, h3, fun hp => ?_⟩
  obtain ⟨b, o, e, hc⟩ := h4 (by omega)
  refine ⟨b, o, e, fun j hj => ?_⟩
  rw [hc j (by omega)]
  unfold byteI
  rw [List.getD_eq_getElem?_getD, List.getD_eq_getElem?_getD, List.getElem?_take, if_pos hj]
theorem BytesAt.keptB {w w' : World} {b o n c B : Nat} {l : List UInt8} (h : BytesAt w (some ⟨b, o, none⟩) n c l) (hb : Below B w w') (hB : b < B) : BytesAt w' (some ⟨b, o, none⟩) n c l := by
  obtain ⟨h1, h2, h3, h4⟩ := h
  refine ⟨h1, h2, h3, fun hp => ?_⟩
  obtain ⟨b', o', e, hc⟩ := h4 hp
  cases e
  exact ⟨b, o, rfl, fun k hk => (hb.cell (p := ⟨b, o + k, none⟩) hB).trans (hc k hk)⟩
theorem own_bytes {w : World} {base n : Nat} {v : Value} {l : List UInt8} (h : w.ownsRow base 5 1 v n (byteCells l)) (hl : l.length = n) : ∃ A c, v = .slice A n c ∧ BytesAt w A n c l := by
  rcases h.2 with ⟨hv, hx⟩ | ⟨g, cap, cur, hv, hb, hg, h1, h2, h3, h4⟩
  · have h0 : l = [] := List.length_eq_zero_iff.1 (hl.trans hx)
    subst h0
    subst hx
    exact ⟨none, 0, hv, rfl, Nat.le_refl _, by omega, fun h => by omega⟩
  · have hm : maxLen = 9223372036854775807 := rfl
    refine ⟨some ⟨g, 0, none⟩, cap, hv, hl, h1, by omega, fun _ => ⟨g, 0, rfl, fun k hk => ?_⟩⟩
    have := World.ownsRow.cells h (g := g) (by rw [hv]; rfl) k (.int .u8 (byteI l k)) (by
      unfold byteCells byteI
      rw [List.getElem?_map, List.getElem?_eq_getElem (by omega), List.getD_eq_getElem?_getD, List.getElem?_eq_getElem (by omega)]
      rfl)
    rwa [Addr.add_lit] at this
theorem word_cells (x : BitVec 32) : (#[Value.int .u8 (wi x / 16777216 % 256), Value.int .u8 (wi x / 65536 % 256), Value.int .u8 (wi x / 256 % 256), Value.int .u8 (wi x % 256)] : Array Value) = (byteCells (wo x)).toArray := by
  have e : ∀ n : Nat, ((UInt8.ofNat n).toNat : Int) = (n : Int) % 256 := fun n => by rw [UInt8.toNat_ofNat']; simp
  unfold wo byteCells wi
  simp only [List.map_cons, List.map_nil, e]
  simp
theorem wpList_append_word (w : World) {ops : Array Oper} {rest : List Oper} {o : Oper} {a : Act} {Q : Exit → Act → World → Prop} (hg : o.guard = none) (s x : Operand) (hop : o.op = Op.call { callee := Callee.builtin Builtin.append, args := #[s, x], argTypes := #[125, 125] })
    (base n : Nat) (v : Value) (xs : List UInt8) (hs : a.eval s = v) (hm : w.ownsRow base 5 1 v n (byteCells xs)) (hn : n ≤ 1000) (B c : Nat) (y : BitVec 32) (hx : a.eval x = .slice (some ⟨B, 0, none⟩) 4 c) {T : TypeId} {fr : Nat × Nat}
    (hB : w.heap[B]? = some (.cells (byteCells (wo y)).toArray T fr)) (hbase : base ≤ w.heap.size)
    (hK : ∀ v' w', w'.ownsRow base 5 1 v' (n + 4) (byteCells (xs ++ wo y)) → Below base w w' → wpList Tryz.prog ops Q rest (a.put o.dst v') w') : wpList Tryz.prog ops Q (o :: rest) a w := by
  obtain ⟨i0, hi, hz0, hz1, hz2⟩ := info_parts byte_info
  have hml : maxLen = 9223372036854775807 := rfl
  refine wpList_append_lies w hg s x 125 hop base 5 i0 (.int .u8 0) 1 1 Tryz.underlying125 hi hz0 hz1 hz2 rfl (by decide) v n (byteCells xs) hs hm ⟨B, 0, none⟩ 4 c (byteCells (wo y)) hx rfl (fun j u hj => ?_) (byteCells_one _) (by decide) (by omega) (by omega) hbase _ rfl (fun g cap w' h1 h2 h3 h4 => hK _ w' ?_ ?_)
  · rw [Addr.add_lit, Nat.zero_add, Lib.cell_of_heap hB]; simpa using hj
  · rw [byteCells_append]; exact h1
  · exact ⟨h2.os, h2.tape, h2.output, h2.size, fun k hk => h2.block k (by omega) (fun e => by have := (hm.lt k e.symm).1; omega)⟩
theorem index_word (s : W8) (i : Nat) (h : i < 8) (w : World) : (Instr.index 230 (.agg s.arr) (.int .i64 (i : Int))).run Tryz.prog w = .ok (.int .u32 (wi (s.at i))) w := by
  match i, h with
  | 0, _ => show _ = _; kernel_rfl
  | 1, _ => show _ = _; kernel_rfl
  | 2, _ => show _ = _; kernel_rfl
  | 3, _ => show _ = _; kernel_rfl
  | 4, _ => show _ = _; kernel_rfl
  | 5, _ => show _ = _; kernel_rfl
  | 6, _ => show _ = _; kernel_rfl
  | 7, _ => show _ = _; kernel_rfl
theorem ws_take (s : W8) (i : Nat) (h : i < 8) : (s.ws.take (i + 1)).flatMap wo = (s.ws.take i).flatMap wo ++ wo (s.at i) := by
  have hl : i < s.ws.length := h
  rw [List.take_add_one, List.flatMap_append, List.getElem?_eq_getElem hl]
  unfold W8.at
  rw [List.getD_eq_getElem?_getD, List.getElem?_eq_getElem hl]
  simp
end Go.Proofs.YtndmjfkmnjejkaaGreatDoor
/- Walk: hash.Sum. -/
set_option linter.unusedVariables false
set_option linter.unusedSimpArgs false
namespace Go.Proofs.YtndmjfkmnjejkaaGreatDoor
open Go.RowKit Go.Lib
theorem shE8_get (N : Nat) {q : Nat} (h : q < 8) : (shE8 N).take (q + 1) = (shE8 N).take q ++ [UInt8.ofNat (N / 2 ^ (56 - 8 * q))] := by
  match q, h with
  | 0, _ => rfl
  | 1, _ => rfl
  | 2, _ => rfl
  | 3, _ => rfl
  | 4, _ => rfl
  | 5, _ => rfl
  | 6, _ => rfl
  | 7, _ => show shE8 N = _; unfold shE8; simp
theorem byte_val (n sh : Nat) : (#[Value.int .u8 ((n : Int) * 8 / 2 ^ sh % 256)] : Array Value) = (byteCells [UInt8.ofNat (n * 8 / 2 ^ sh)]).toArray := by
  have : ((n : Int) * 8 / 2 ^ sh % 256) = ((n * 8 / 2 ^ sh % 256 : Nat) : Int) := by simp
  rw [this]
  simp [byteCells, UInt8.toNat_ofNat']
set_option maxRecDepth 100000 in
set_option maxHeartbeats 2000000 in
theorem h_Sum (s : ByteArray) (hs : s.size ≤ 1000000000000) (w : World) : Calls Tryz.prog 211 #[.string s] w (Ret (.string (bstr (shaL s.data.toList))) w) := by
  obtain ⟨n, hn⟩ : ∃ n, s.size = n := ⟨_, rfl⟩
  obtain ⟨l, hl⟩ : ∃ l, s.data.toList = l := ⟨_, rfl⟩
  have hll : l.length = n := by rw [← hl, ← hn]; exact Array.length_toList
  obtain ⟨r, hr⟩ : ∃ r, bstr (shaL l) = r := ⟨_, rfl⟩
  have HR := Lib.hid hr
  have HL := Lib.hid hll
  have hmk := make_room n (n + 72) (by omega) (by omega) w
  simp only [Int.natCast_add, Int.cast_ofNat_Int] at hmk
  have HCR := Lib.hid (copy_run w s n (n + 72) hn (by omega) 3)
  have HM1 := Lib.hid (copied w s (n + 72) (by omega) (by unfold maxLen; omega))
  rw [hl] at HCR HM1 ⊢
  rw [hr]
  obtain ⟨w1, hw1⟩ : ∃ w1, (w.alloc (.cells (madeCells #[.int .u8 0] (n + 72)) 5)).setRow w.heap.size (((madeCells #[.int .u8 0] (n + 72)).toList.take 0 ++ byteCells l ++ (madeCells #[.int .u8 0] (n + 72)).toList.drop (0 + s.size)).toArray) = w1 := ⟨_, rfl⟩
  have HB1 := Lib.hid (show Below w.heap.size w w1 from hw1 ▸ copied_below _ _ _ _)
  rw [hw1] at HCR HM1
  clear hw1 hr hl hll
  rw [hn] at hs
  have hsi : (n : Int) ≤ 1000000000000 := by omega
  clear hs
  go_enter Tryz.func211, Tryz.ntmps211
  go_wp2_with (first
    | refine wpList_copy_ran _ rfl (.tmp 16) (.tmp 17) 125 9 rfl _ _ rfl rfl HCR.out ?_
    | (at_builtin; refine wpList_append_msg _ rfl (.tmp 19) (.tmp 20) rfl w.heap.size (n + 72) n 1 l [128] HL.out rfl rfl (HM1.out.kept ((Below.refl _ _).alloc (Nat.le_refl _) _)) w1.heap.size 1 rfl (heap_alloc_new _ _) (by omega) ?_))
  intro w2 hm2 hb2
  obtain ⟨H, hH⟩ : ∃ H, w.heap.size = H := ⟨_, rfl⟩
  rw [hH] at HB1 HM1 hm2 hb2 ⊢
  have HM2 := Lib.hid hm2
  have HB2 := Lib.hid (show Below H w w2 from (HB1.out.alloc (by rw [← hH]; exact HB1.out.size) _).trans hb2)
  clear hm2 hb2 HM1 HB1 HCR hmk
  have HZ := Lib.hid (show zs n = (119 - n % 64) % 64 from rfl)
  go_wp2
  go_loopw [3] (fun v wr => ∃ k : Nat, k ≤ zs n ∧ v = .slice (some ⟨H, 0, none⟩) (n + 1 + k) (n + 72) ∧ MsgAt wr H (n + 72) (l ++ [128] ++ List.replicate k 0) ∧ Below H w wr) (fun v _ => n + 100 - sliceLen v)
  case atStart => exact ⟨0, Nat.zero_le _, rfl, by simpa using HM2.out, HB2.out⟩
  case round =>
    obtain ⟨k, hk, rfl, hm, hb⟩ := hrel
    have HM := Lib.hid hm
    have HB := Lib.hid hb
    clear hm hb
    obtain ⟨j, hj⟩ : ∃ j, n + 1 + k = j := ⟨_, rfl⟩
    have HJ := Lib.hid hj
    rw [hj]
    have HLEN := Lib.hid (show (l ++ [128] ++ List.replicate k 0).length = j from by simp [HL.out]; omega)
    by_cases hlt : k < zs n
    · have hne : ¬ ((j : Int) % 64 = 56) := by have := HZ.out; omega
      have hj72 : j + 1 ≤ n + 72 := by have := HZ.out; omega
      clear hj hk
      go_wp2_with (at_builtin; refine wpList_append_msg _ rfl (.tmp 26) (.tmp 27) rfl H (n + 72) j 1 (l ++ [128] ++ List.replicate k 0) [0] HLEN.out rfl rfl (HM.out.kept ((Below.refl _ _).alloc (Nat.le_refl _) _)) wr.heap.size 1 rfl (heap_alloc_new _ _) hj72 ?_)
      intro w3 hm3 hb3
      have HM3 := Lib.hid hm3
      have HB3 := Lib.hid (show Below H w w3 from (HB.out.alloc (by have := HM.out.lt; omega) _).trans hb3)
      clear hm3 hb3 hj72 hne
      go_wp2
      go_roundw
      case rel =>
        refine ⟨k + 1, by omega, by have := HJ.out; rw [← this]; rfl, ?_, HB3.out⟩
        rw [List.replicate_succ', ← List.append_assoc]
        simpa using HM3.out
      case measure => have := HJ.out; have := HZ.out; simp [sliceLen]; omega
    · have he : (j : Int) % 64 = 56 := by have := HZ.out; omega
      have HKZ := Lib.hid (show k = zs n from by omega)
      have HMZ := Lib.hid (show MsgAt wr H (n + 72) (l ++ [128] ++ List.replicate (zs n) 0) from by rw [← HKZ.out]; exact HM.out)
      obtain ⟨M, hM⟩ : ∃ M, l ++ [128] ++ List.replicate (zs n) 0 = M := ⟨_, rfl⟩
      rw [hM] at HMZ
      have HLM := Lib.hid (show M.length = j from by rw [← hM, ← HKZ.out]; exact HLEN.out)
      have hj64 := Lib.hid (show j + 8 ≤ n + 72 from by have := HZ.out; omega)
      have HMM := Lib.hid hM
      clear hM HM hk hlt hj HLEN HJ
      go_wp2
      clear he
      go_loopw [3, 5] (fun v i wr => ∃ q : Nat, q ≤ 8 ∧ v = .slice (some ⟨H, 0, none⟩) (j + q) (n + 72) ∧ i = .int .i64 (56 - 8 * (q : Int)) ∧ MsgAt wr H (n + 72) (M ++ (shE8 (n * 8)).take q) ∧ Below H w wr) (fun v _ _ => n + 100 - sliceLen v)
      case atStart => exact ⟨0, Nat.zero_le _, rfl, rfl, by simpa using HMZ.out, HB.out⟩
      case round =>
        obtain ⟨q, hq, rfl, rfl, hm, hb⟩ := hrel
        have HM := Lib.hid hm
        have HB := Lib.hid hb
        clear hm hb
        by_cases hlt : q < 8
        · obtain ⟨sh, hsh⟩ : ∃ sh, 56 - 8 * q = sh := ⟨_, rfl⟩
          have hshi : (56 : Int) - 8 * (q : Int) = (sh : Int) := by omega
          have hsh64 : (sh : Int) < 64 := by omega
          have HV := Lib.hid (byte_val n sh)
          have HTK := Lib.hid (shE8_get (n * 8) hlt)
          rw [hsh] at HTK
          have HLQ := Lib.hid (show (M ++ (shE8 (n * 8)).take q).length = j + q from by rw [List.length_append, HLM.out, List.length_take]; simp [shE8]; omega)
          have hfit : j + q + 1 ≤ n + 72 := by have := hj64.out; omega
          clear hsh
          go_wp2_with (at_builtin; refine wpList_append_msg _ rfl (.tmp 37) (.tmp 42) rfl H (n + 72) (j + q) 1 (M ++ (shE8 (n * 8)).take q) [UInt8.ofNat (n * 8 / 2 ^ sh)] HLQ.out rfl rfl (HM.out.kept ((Below.refl _ _).alloc (Nat.le_refl _) _)) wr.heap.size 1 rfl (by rw [← HV.out]; exact heap_alloc_new _ _) hfit ?_)
          intro w3 hm3 hb3
          have HM3 := Lib.hid hm3
          have HB3 := Lib.hid (show Below H w w3 from (HB.out.alloc (by have := HM.out.lt; omega) _).trans hb3)
          clear hm3 hb3 hfit
          have hsub : (sh : Int) - 8 = 56 - 8 * ((q + 1 : Nat) : Int) := by omega
          go_wp2
          go_roundw
          case rel =>
            refine ⟨q + 1, by omega, rfl, ?_, ?_, HB3.out⟩
            · simp
            · rw [HTK.out]; exact HM3.out
          case measure => have := hj64.out; simp [sliceLen]; omega
        · have HQ := Lib.hid (show q = 8 from by omega)
          have hge : ¬ ((0 : Int) ≤ 56 - 8 * (q : Int)) := by omega
          obtain ⟨Ln, hLn⟩ : ∃ x, j + q = x := ⟨_, rfl⟩
          have HP := Lib.hid (show MsgAt wr H (n + 72) (padL l) from by
            have h := HM.out
            rw [HQ.out, ← HMM.out] at h
            unfold padL
            rw [HL.out]
            exact h)
          have HLP := Lib.hid (show (padL l).length = Ln from by rw [padL_length, ← hLn, HQ.out]; have h1 := HLM.out; rw [← HMM.out] at h1; simp [HL.out] at h1 ⊢; omega)
          have HMOD := Lib.hid (show Ln % 64 = 0 from by rw [← HLP.out]; exact padL_mod l)
          rw [hLn]
          clear hLn HM hq hlt HMZ HLM HMM
          go_wp2_with fail
          refine (h_first _).mono ?_
          rintro e w4 ⟨rfl, hb4⟩
          dsimp only
          have HB4 := Lib.hid (show Below H w w4 from HB.out.trans (hb4.mono (by have := HP.out.lt; omega)))
          have HP4 := Lib.hid (HP.out.kept hb4)
          clear hb4 HB HP
          obtain ⟨X, hX⟩ : ∃ X, w4.heap.size = X := ⟨_, rfl⟩
          have hHX : H < X := by rw [← hX]; exact HP4.out.lt
          go_step
          refine Great.wpList_allocTo rfl _ rfl (.pointer (some ⟨X, 0, none⟩)) (.cells z8 230) (by rw [← hX]; kernel_rfl) ?_
          refine wpList_store_rowTo rfl 230 _ _ rfl rfl X st0.arr (by kernel_rfl) (by kernel_rfl) 230 z8 (by rw [← hX]; exact heap_alloc_new _ _) (by kernel_rfl) (by kernel_rfl) (W8.arr_one _) ?_
          rw [← hX, World.setRow_alloc_new]
          obtain ⟨w5, hw5⟩ : ∃ w5, w4.alloc (.cells st0.arr 230) = w5 := ⟨_, rfl⟩
          have hb5 : Below X w4 w5 := hX ▸ hw5 ▸ (Below.refl _ _).alloc (Nat.le_refl _) _
          have HX5 := Lib.hid (show RowS w5 X st0 from by rw [← hw5, ← hX]; exact heap_alloc_new _ _)
          have HB5 := Lib.hid (show Below H w w5 from HB4.out.trans (hb5.mono (by omega)))
          have HP5 := Lib.hid (HP4.out.kept (hX ▸ hb5))
          rw [hw5, hX]
          clear hw5 hb5 HB4 HP4
          obtain ⟨P, hP⟩ : ∃ P, padL l = P := ⟨_, rfl⟩
          have HPP := Lib.hid hP
          rw [hP] at HLP HP5
          clear hP
          go_wp2
          simp only [Act.put, sqA, sqB, sqC]
          go_loopw [3] (fun v wr => ∃ i o c : Nat, 64 * i ≤ Ln ∧ v = .slice (some ⟨H, o, none⟩) (Ln - 64 * i) c ∧ BytesAt wr (some ⟨H, o, none⟩) (Ln - 64 * i) c (P.drop (64 * i)) ∧ RowS wr X (blks st0 i P) ∧ Below H w wr ∧ X < wr.heap.size) (fun v _ => sliceLen v)
          case atStart => exact ⟨0, 0, n + 72, Nat.zero_le _, rfl, by have := HP5.out.bytes; rw [HLP.out] at this; exact this, HX5.out, HB5.out, HX5.out.lt⟩
          case round =>
            obtain ⟨i, o, c, hi, rfl, hby, hx, hb, hxs⟩ := hrel
            have HBY := Lib.hid hby
            have HX := Lib.hid hx
            have HB := Lib.hid hb
            clear hby hx hb
            obtain ⟨rem, hrem⟩ : ∃ x, Ln - 64 * i = x := ⟨_, rfl⟩
            rw [hrem] at HBY ⊢
            by_cases h0 : 0 < rem
            · have hr64 : 64 ≤ rem := by have := HMOD.out; omega
              have hri : 0 < (rem : Int) := by omega
              have hc64 : 64 ≤ c := by have := HBY.out.2.1; omega
              have hc64i : (64 : Int) ≤ (c : Int) := by omega
              have hr64i : (64 : Int) ≤ (rem : Int) := by omega
              have HLD := Lib.hid (show ∀ w', Below wr.drew.heap.size wr.drew w' → RowS w' X (blks st0 i P) from fun w' hb => (show RowS wr.drew X (blks st0 i P) from HX.out).kept hb hxs)
              go_wp2
              trace_state
              refine wp_region_K 4 (Below (wr.drew).heap.size (wr.drew)) (by kernel_rfl) ?_
              intro hD
              refine wpAnyK_takeD (i := 0) (d := some 50) (v := (.agg (blks st0 i P).arr)) (fuel := 4) rfl (by kernel_rfl) (by kernel_rfl) (by kernel_rfl) (fun _ _ _ h => h) hD (Below.refl _ _) (.inl ⟨by kernel_rfl, ?y14_0b1⟩) ?n14_0b1
              case y14_0b1 =>
                intro w' hS'
                exact load_row_run 230 _ rfl X rfl _ (HLD.out _ hS') Tryz.underlying230 rfl (by kernel_rfl)
              clear hD; intro hD
              simp only [Act.put, sqA, sqB, sqC]
              refine wpAnyK_pureD (i := 1) (d := some 51) (v := ?v14_1b1) (fuel := 3) rfl (by kernel_rfl) (by kernel_rfl) (fun _ _ _ h => h) hD (Below.refl _ _) (.inl ⟨by kernel_rfl, ?y14_1b1⟩) ?n14_1b1
              case y14_1b1 => intro w' _; go_simp; with_reducible rfl
              clear hD; intro hD
              simp only [Act.put, sqA, sqB, sqC]
              refine wpAnyK_pureD (i := 2) (d := some 52) (v := ?v14_2b1) (fuel := 2) rfl (by kernel_rfl) (by kernel_rfl) (fun _ _ _ h => h) hD (Below.refl _ _) (.inl ⟨by kernel_rfl, ?y14_2b1⟩) ?n14_2b1
              case y14_2b1 => intro w' _; go_simp; with_reducible rfl
              clear hD; intro hD
              simp only [Act.put, sqA, sqB, sqC]
              refine rO 3 1 rfl hD ?_; clear hD; intro K3 hK3
              go_wp2_with fail
              refine (h_after (blks st0 i P) ((P.drop (64 * i)).take 64) H o c _ ((show BytesAt wr.drew _ _ _ _ from HBY.out).front 64 hr64)).mono ?_
              rintro e w6 ⟨rfl, hb6⟩
              have HX6 := Lib.hid (show RowS w6 X (blks st0 i P) from (show RowS wr.drew X (blks st0 i P) from HX.out).kept hb6 hxs)
              have HBY6 := Lib.hid ((show BytesAt wr.drew _ _ _ _ from HBY.out).kept hb6)
              have HB6 := Lib.hid (show Below H w w6 from HB.out.drew.trans (hb6.mono (by show H ≤ wr.heap.size; omega)))
              have HS6 := Lib.hid (show X < w6.heap.size from HX6.out.lt)
              have HBW := Lib.hid hb6
              clear hb6
              go_wp2
              refine hK3 _ _ (by exact HBW.out) ?_; clear hK3; intro hS_14_3 hD
              refine wpAnyK_oneT (i := 4) (fuel := 0) (by kernel_rfl) rfl hD (by kernel_rfl) ?_; clear hD; intro K4 hK4
              rw [← blks_succ]
              obtain ⟨Y, hY⟩ : ∃ Y, blks st0 (i + 1) P = Y := ⟨_, rfl⟩
              have HY := Lib.hid hY
              rw [hY]
              clear hY
              refine wpList_store_rowTo rfl 230 _ _ rfl rfl X Y.arr rfl rfl 230 _ HX6.out (by kernel_rfl) (by kernel_rfl) (W8.arr_one _) ?_
              obtain ⟨w7, hw7⟩ : ∃ w7, w6.setRow X Y.arr = w7 := ⟨_, rfl⟩
              have HX7 := Lib.hid (show RowS w7 X Y from hw7 ▸ setRow_heap _ _ _ _ _ _ HX6.out)
              have HB7 := Lib.hid (show Below X w6 w7 from hw7 ▸ below_setRow (Below.refl _ _) (Nat.le_refl _) _)
              have HS7 := Lib.hid (show X < w7.heap.size from HX7.out.lt)
              rw [hw7]
              clear hw7
              go_wp2
              refine hK4 _ _ ?_; clear hK4; intro hD
              refine wpAnyK_done (by kernel_rfl) ?_ 0
              clear hD
              go_wp2
              refine ⟨?_, ?_⟩
              · have hby7 := HBY6.out.keptB HB7.out hHX
                have hfr := hby7.from 64 hr64
                rw [List.drop_drop] at hfr
                have hxi : RowS w7 X (blks st0 (i + 1) P) := by rw [HY.out]; exact HX7.out
                have hbi : Below H w w7 := HB6.out.trans (HB7.out.mono (by omega))
                have hl1 : Ln - 64 * (i + 1) = rem - 64 := by omega
                have hd1 : 64 * i + 64 = 64 * (i + 1) := by omega
                rw [hd1] at hfr
                by_cases hc : c = 64
                · rw [if_pos hc] at hfr ⊢
                  exact ⟨i + 1, o, c - 64, by omega, by rw [hl1], by rw [hl1]; exact hfr, hxi, hbi, HS7.out⟩
                · rw [if_neg hc] at hfr ⊢
                  exact ⟨i + 1, o + 64, c - 64, by omega, by rw [hl1], by rw [hl1]; exact hfr, hxi, hbi, HS7.out⟩
              · simp [sliceLen]; omega
            · have hr0 : ¬ (0 : Int) < (rem : Int) := by omega
              obtain ⟨F, hF⟩ : ∃ F, blks st0 i P = F := ⟨_, rfl⟩
              have HF := Lib.hid (show r = bstr (F.ws.flatMap wo) from by
                rw [← HR.out, ← hF]; unfold shaL; rw [HPP.out, HLP.out, show Ln / 64 = i from by omega])
              rw [hF] at HX
              clear hF h0 HBY
              obtain ⟨G, hG⟩ : ∃ G, wr.heap.size = G := ⟨_, rfl⟩
              have hHG : H < G := by rw [← hG]; omega
              go_wp2_with (refine wpList_load_row rfl 230 _ rfl X rfl 230 F.arr (0, 0) _ HX.out Tryz.underlying230 rfl (by kernel_rfl) ?_)
              trace_state
              go_loopw [7, 55] (fun v x wr => ∃ i : Nat, i ≤ 8 ∧ x = .int .i64 i ∧ wr.ownsRow G 5 1 v (4 * i) (byteCells ((F.ws.take i).flatMap wo)) ∧ Below H w wr ∧ G ≤ wr.heap.size) (fun _ x _ => 8 - (RowKit.intOf x).toNat)
              case atStart => exact ⟨0, by omega, rfl, World.ownsRow_nil _ _ _ _, HB.out, by omega⟩
              case round =>
                obtain ⟨i2, hi2, rfl, hown, hb, hg⟩ := hrel
                have HO := Lib.hid hown
                have HB2 := Lib.hid hb
                clear hown hb
                by_cases hlt : i2 < 8
                · have hi2i : (i2 : Int) < 8 := by omega
                  have hidx := fun w => index_word F i2 hlt w
                  have HTK := Lib.hid (ws_take F i2 hlt)
                  obtain ⟨x, hx⟩ : ∃ x, F.at i2 = x := ⟨_, rfl⟩
                  rw [hx] at hidx HTK
                  clear hx
                  have HWC := Lib.hid (word_cells x)
                  go_wp2_with (at_builtin; refine wpList_append_word _ rfl (.tmp 58) (.tmp 70) rfl G (4 * i2) _ ((F.ws.take i2).flatMap wo) rfl (HO.out.alloc _) (by omega) wr.heap.size 4 x rfl (by rw [← HWC.out]; exact heap_alloc_new _ _) (by simp; omega) ?_)
                  intro v3 w8 ho8 hb8
                  have HO8 := Lib.hid ho8
                  have HB8 := Lib.hid (show Below H w w8 from (HB2.out.alloc (by omega) _).trans (hb8.mono (by omega)))
                  have HG8 := Lib.hid (show G ≤ w8.heap.size from by have := hb8.size; simp at this; omega)
                  clear ho8 hb8 hidx
                  go_wp2
                  go_roundw
                  case rel =>
                    refine ⟨i2 + 1, by omega, by go_num, ?_, HB8.out, HG8.out⟩
                    rw [HTK.out]
                    exact HO8.out
                  case measure => simp [RowKit.intOf]; omega
                · obtain rfl : i2 = 8 := by omega
                  obtain ⟨A, c7, rfl, hby⟩ := own_bytes HO.out (show ((F.ws.take 8).flatMap wo).length = 4 * 8 from by simp [W8.ws, wo])
                  have hconv := hby.conv 125 9 5 Tryz.underlying125 Tryz.underlying5 Tryz.underlying9
                  have hw8 : F.ws.take 8 = F.ws := rfl
                  rw [hw8, ← HF.out] at hconv
                  clear hby hw8
                  go_wp2
                  go_ret
                  exact ⟨rfl, by rw [hH]; exact HB2.out⟩
end Go.Proofs.YtndmjfkmnjejkaaGreatDoor

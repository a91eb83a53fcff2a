/- Walks: the writing methods of strings.Builder at the builder within a frame that the call itself has made. -/
import Derived.Test.YtndmjfkmnjejkaaGreatDoorQBld
import Derived.Laws.AppendOwn
import Derived.Test.YtndmjfkmnjejkaaGreatDoorQCoB
import Derived.Test.YtndmjfkmnjejkaaGreatDoorQPeB
import Derived.Test.YtndmjfkmnjejkaaGreatDoorQOvr
import Derived.Great.Walk
import Derived.Great.BuildSlice
import Derived.Laws.CopyOwn
set_option linter.unusedVariables false
set_option linter.unusedSimpArgs false
namespace Go.Proofs.YtndmjfkmnjejkaaGreatDoor
open Go.RowKit
def KeepS (w w' : World) : Prop := ∀ (g : Nat) (cs : Array Value) (fr : Nat × Nat), w.heap[g]? = some (.cells cs 9 fr) → w'.heap[g]? = some (.cells cs 9 fr)
theorem KeepS.refl (w : World) : KeepS w w := fun _ _ _ h => h
theorem KeepS.trans {a b c : World} (h : KeepS a b) (k : KeepS b c) : KeepS a c := fun g cs fr e => k g cs fr (h g cs fr e)
theorem KeepS.below {w w' : World} (h : Below w.heap.size w w') : KeepS w w' := fun g cs fr e => (h.block g (block_lt e)).trans e
theorem KeepS.set {w : World} {b k : Nat} {cs : Array Value} {T : TypeId} {fr : Nat × Nat} (hb : w.heap[b]? = some (.cells cs T fr)) (hT : T ≠ 9) (v : Value) : KeepS w (w.setCell ⟨b, k, none⟩ v) := fun g cs' fr' e => by
  have hne : g ≠ b := fun h => by
    subst h
    rw [hb] at e
    simp only [Option.some.injEq, Obj.cells.injEq] at e
    exact hT e.2.1
  exact (heap_setCell_other _ _ _ _ hne).trans e
theorem frb_lies : liesAt Tryz.prog Tryz.prog.depth 194 (2 / Tryz.prog.cellsOf 194) 0 191 1 = true := by kernel_rfl
set_option maxHeartbeats 1000000 in
set_option maxRecDepth 100000 in
theorem frb_check_fresh (b : Nat) (w : World) (h0 : w.cell? ⟨b, 0, none⟩ = some (.pointer none)) (hsh : w.shape? b = some (194, 2)) (hfz : w.frozen? ⟨b, 0, none⟩ = false) :
    Calls Tryz.prog 212 #[.pointer (some ⟨b, 0, none⟩)] w fun e w' => e = .returned (.tuple #[]) ∧ w.setCell ⟨b, 0, none⟩ (.pointer (some ⟨b, 0, none⟩)) = w' := by
  obtain ⟨j, hj, hjs⟩ := Option.map_eq_some_iff.1 bld_size
  go_enter Tryz.func212, Tryz.ntmps212
  go_wp2
  rw [Lib.run_to_unsafe w ⟨b, 0, none⟩ Tryz.underlying189 Tryz.underlying233 hj (by rw [hjs]; decide) hsh (Nat.zero_lt_succ 1)]
  simp only [Result.andThen]
  rw [Oper.upon_value]
  go_wp2
  rw [run_callFunc_extern Tryz.func230 (by kernel_rfl) (by kernel_rfl) (by kernel_rfl) (e := Extern.AbiNoEscape.same) (by kernel_rfl)]
  rw [Lib.run_noEscape]
  simp only [Result.andThen]
  rw [Oper.upon_value]
  go_wp2
  rw [Lib.run_from_unsafe w ⟨b, 0, none⟩ Tryz.underlying233 Tryz.underlying189 hj hsh frb_lies]
  simp only [Result.andThen]
  rw [Oper.upon_value]
  go_wp2
  go_end0
  exact ⟨rfl, rfl⟩
theorem frb_check (B b : Nat) (bs : List Value) (w : World) (h : Lib.IsBuilder 194 5 B b bs w) :
    Calls Tryz.prog 212 #[.pointer (some ⟨b, 0, none⟩)] w fun e w' => e = .returned (.tuple #[]) ∧ (Lib.BuilderAt 194 5 B b (.pointer (some ⟨b, 0, none⟩)) bs w' ∧ Below B w w' ∧ KeepS w w') := by
  rcases h with h | h
  · refine (frb_check_fresh b w h.cell0 h.shape h.frozen0).mono ?_
    rintro e w' ⟨rfl, rfl⟩
    exact ⟨rfl, h.used _, (Below.refl B w).setCell (p := ⟨b, 0, none⟩) h.1 _, by obtain ⟨_, _, hb, _⟩ := h; exact KeepS.set hb (by decide) _⟩
  · refine (bld_check_used b w h.cell0).mono ?_
    rintro e w' ⟨rfl, rfl⟩
    exact ⟨rfl, h, Below.refl B _, KeepS.refl _⟩
set_option maxHeartbeats 1000000 in
set_option maxRecDepth 100000 in
theorem frb_WriteString (B b : Nat) (bs : List Value) (s : ByteArray) (w : World) (h : Lib.IsBuilder 194 5 B b bs w) (hlen : bs.length + s.size ≤ 140737488355328) (hBw : B ≤ w.heap.size) :
    Calls Tryz.prog 182 #[.pointer (some ⟨b, 0, none⟩), .string s] w fun e w' => e = .returned (.tuple #[.int .i64 s.size, .nilIface]) ∧
      (Lib.IsBuilder 194 5 B b (bs ++ Lib.strCells s) w' ∧ Below B w w' ∧ KeepS w w') := by
  obtain ⟨i0, hi, hz0, hz1, hz2⟩ := info_parts u8_infoB
  go_enter Tryz.func182, Tryz.ntmps182
  go_wp2_with fail
  refine (frb_check B b bs _ h).mono ?_
  rintro e w1 ⟨rfl, h1, hb1, hk1⟩
  obtain ⟨hB, v, hbk, hown, hne⟩ := h1
  have c0 : w1.cell? ⟨b, 0, none⟩ = some (.pointer (some ⟨b, 0, none⟩)) := by rw [Lib.cell_of_heap hbk]; rfl
  have c1 : w1.cell? ⟨b, 1, none⟩ = some v := by rw [Lib.cell_of_heap hbk]; rfl
  go_wp2_with (at_builtin; refine Lib.wpList_append_own_string _ rfl _ _ 125 9 rfl B 5 i0 Tryz.underlying125 Tryz.underlying9 hi hz0 hz1 hz2 _ _ _ rfl hown s rfl ?c3 ?c4 ?c5 ?_)
  case c3 => unfold maxLen; omega
  case c4 => omega
  case c5 => have := hb1.size; omega
  intro v' w2 hown' hgrow _
  have hlt : b < w1.heap.size := by
    rcases Nat.lt_or_ge b w1.heap.size with h' | h'
    · exact h'
    · rw [Array.getElem?_eq_none h'] at hbk; cases hbk
  have hb2 : w2.heap[b]? = some (.cells #[.pointer (some ⟨b, 0, none⟩), v] 194 (0, 0)) := by
    rw [hgrow.block b hlt (fun e => hne e.symm)]
    exact hbk
  have d0 : w2.cell? ⟨b, 0, none⟩ = some (.pointer (some ⟨b, 0, none⟩)) := by rw [Lib.cell_of_heap hb2]; rfl
  have d1 : w2.cell? ⟨b, 1, none⟩ = some v := by rw [Lib.cell_of_heap hb2]; rfl
  have f1 : w2.frozen? ⟨b, 1, none⟩ = false := Lib.frozen_of_heap hb2 1
  obtain ⟨ao, n', cap, rfl⟩ : ∃ ao n' cap, v' = .slice ao n' cap := by
    rcases hown'.2 with ⟨hv, _⟩ | ⟨g, cap, cur, hv, _⟩
    · exact ⟨_, _, _, hv⟩
    · exact ⟨_, _, _, hv⟩
  go_wp2
  go_ret2
  have hk2 : KeepS w1 w2 := fun g cs fr e => (hgrow.block g (block_lt e) (fun h => Lib.ownBlock_ne hown e (by decide) h.symm)).trans e
  refine ⟨rfl, .inr ?_, ?_, (hk1.trans hk2).trans (KeepS.set hb2 (by decide) _)⟩
  · exact Lib.BuilderAt.put hB hb2 (bs' := bs ++ Lib.strCells s) (by simpa [Lib.strCells_length] using hown') (by decide)
  · exact (hb1.grown hgrow (by have := hb1.size; omega) (fun k hk => (hown.lt k hk).1)).setCell (p := ⟨b, 1, none⟩) hB _
set_option maxHeartbeats 1000000 in
set_option maxRecDepth 100000 in
theorem frb_WriteByte (B b : Nat) (bs : List Value) (c : Int) (w : World) (h : Lib.IsBuilder 194 5 B b bs w) (hlen : bs.length + 1 ≤ 140737488355328) (hBw : B ≤ w.heap.size) :
    Calls Tryz.prog 210 #[.pointer (some ⟨b, 0, none⟩), .int .u8 c] w fun e w' => e = .returned .nilIface ∧
      (Lib.IsBuilder 194 5 B b (bs ++ [.int .u8 c]) w' ∧ Below B w w' ∧ KeepS w w') := by
  obtain ⟨i0, hi, hz0, hz1, hz2⟩ := info_parts u8_infoB
  go_enter Tryz.func210, Tryz.ntmps210
  go_wp2_with fail
  refine (frb_check B b bs _ h).mono ?_
  rintro e w1 ⟨rfl, h1, hb1, hk1⟩
  obtain ⟨hB, v, hbk, hown, hne⟩ := h1
  have c0 : w1.cell? ⟨b, 0, none⟩ = some (.pointer (some ⟨b, 0, none⟩)) := by rw [Lib.cell_of_heap hbk]; rfl
  have c1 : w1.cell? ⟨b, 1, none⟩ = some v := by rw [Lib.cell_of_heap hbk]; rfl
  have hb11 : B ≤ w1.heap.size := by have := hb1.size; omega
  go_wp2_with (at_builtin; refine wpList_append_own _ rfl _ _ 125 rfl B 5 i0 (.int .u8 0) 1 1 Tryz.underlying125 hi hz0 hz1 hz2 rfl (by decide) v bs.length bs rfl (hown.alloc _) ⟨w1.heap.size, 0, none⟩ 1 1 [.int .u8 c] rfl rfl ?c1 ?c2 ?c3 ?c4 ?c5 ?_)
  case c1 =>
    intro j u hj
    match j, hj with
    | 0, hj => simp at hj; subst hj; simp [Addr.add]
    | (j + 1), hj => simp at hj
  case c2 => intro u hu; simp at hu; subst hu; rfl
  case c3 => unfold maxLen; omega
  case c4 => omega
  case c5 => have := (Below.alloc (Below.refl w1.heap.size w1) (Nat.le_refl _) (.cells #[.int .u8 c] 5)).size; omega
  intro v' w2 hown' hgrow _
  have hlt0 : b < w1.heap.size := by
    rcases Nat.lt_or_ge b w1.heap.size with h' | h'
    · exact h'
    · rw [Array.getElem?_eq_none h'] at hbk; cases hbk
  have hbk1 : (w1.alloc (.cells #[.int .u8 c] 5)).heap[b]? = some (.cells #[.pointer (some ⟨b, 0, none⟩), v] 194 (0, 0)) := by
    rw [Lib.alloc_old _ _ _ hlt0]; exact hbk
  have hlt : b < (w1.alloc (.cells #[.int .u8 c] 5)).heap.size := by simp; omega
  have hb2 : w2.heap[b]? = some (.cells #[.pointer (some ⟨b, 0, none⟩), v] 194 (0, 0)) := by
    rw [hgrow.block b hlt (fun e => hne e.symm)]
    exact hbk1
  have d0 : w2.cell? ⟨b, 0, none⟩ = some (.pointer (some ⟨b, 0, none⟩)) := by rw [Lib.cell_of_heap hb2]; rfl
  have d1 : w2.cell? ⟨b, 1, none⟩ = some v := by rw [Lib.cell_of_heap hb2]; rfl
  have f1 : w2.frozen? ⟨b, 1, none⟩ = false := Lib.frozen_of_heap hb2 1
  obtain ⟨ao, n', cap, rfl⟩ : ∃ ao n' cap, v' = .slice ao n' cap := by
    rcases hown'.2 with ⟨hv, _⟩ | ⟨g, cap, cur, hv, _⟩
    · exact ⟨_, _, _, hv⟩
    · exact ⟨_, _, _, hv⟩
  go_wp2
  go_ret
  have hk2 : KeepS (w1.alloc (.cells #[.int .u8 c] 5)) w2 := fun g cs fr e => (hgrow.block g (block_lt e) (fun h => Lib.ownBlock_ne (hown.alloc _) e (by decide) h.symm)).trans e
  refine ⟨rfl, .inr ?_, ?_, ((hk1.trans (KeepS.below ((Below.refl _ _).alloc (Nat.le_refl _) _))).trans hk2).trans (KeepS.set hb2 (by decide) _)⟩
  · exact Lib.BuilderAt.put hB hb2 (bs' := bs ++ [.int .u8 c]) (by simpa using hown') (by decide)
  · exact (((hb1.alloc hb11 _).grown hgrow (by have := hb1.size; simp; omega) (fun k hk => (hown.lt k hk).1))).setCell (p := ⟨b, 1, none⟩) hB _
theorem frb_kept {B b : Nat} {bs : List Value} {w w' : World} (h : Lib.IsBuilder 194 5 B b bs w) (hb : Below w.heap.size w w') : Lib.IsBuilder 194 5 B b bs w' := by
  rcases h with ⟨h1, v, h2, h3, h4⟩ | ⟨h1, v, h2, h3, h4⟩
  · exact .inl ⟨h1, v, block_kept hb (Nat.le_refl _) h2, owns_kept h3 hb (Nat.le_refl _), h4⟩
  · exact .inr ⟨h1, v, block_kept hb (Nat.le_refl _) h2, owns_kept h3 hb (Nat.le_refl _), h4⟩
theorem frb_drew {B b : Nat} {bs : List Value} {w : World} (h : Lib.IsBuilder 194 5 B b bs w) : Lib.IsBuilder 194 5 B b bs w.drew := frb_kept h (Below.refl _ _).drew
set_option maxHeartbeats 2000000 in
set_option maxRecDepth 100000 in
theorem frb_String (B b : Nat) (l : List UInt8) (w : World) (h : Lib.IsBuilder 194 5 B b (Lib.byteCells l) w) (hBw : B ≤ w.heap.size) :
    Calls Tryz.prog 183 #[.pointer (some ⟨b, 0, none⟩)] w fun e w' => e = .returned (.string (bstr l)) ∧ KeepB B w w' := by
  obtain ⟨p, hB, v, hbk, hown, hne⟩ : ∃ p, Lib.BuilderAt 194 5 B b p (Lib.byteCells l) w := by
    rcases h with h | h
    · exact ⟨_, h⟩
    · exact ⟨_, h⟩
  clear h
  have hlt : b < w.heap.size := block_lt hbk
  rw [Lib.byteCells_length] at hown
  by_cases h0 : l = []
  · subst h0
    have hUS : ∀ (W : World) (q : Option Addr), (Builtin.unsafeString_ #[222, 3] 9 #[.pointer q, .int .i64 0]).run Tryz.prog W = .ok (.string .empty) W := fun W q => Lib.run_unsafeString_none W _ _ _ q
    rcases hown.2 with ⟨rfl, _⟩ | ⟨g, cap, cur, rfl, hbg, hg, _, _, _, _⟩
    · have c1 : w.drew.cell? ⟨b, 1, none⟩ = some (.slice none 0 0) := by
        rw [cell?_drew, Lib.cell_of_heap hbk]; rfl
      have hSD : (Builtin.unsafeSliceData_ #[125] 222 #[.slice none 0 0]).run Tryz.prog w.drew = .ok (.pointer none) w.drew := rfl
      clear hown hne hbk
      go_enter Tryz.func183, Tryz.ntmps183
      go_wp2
      go_region
      all_goals (go_wp2; go_ret; exact ⟨rfl, (KeepB.refl B w).drew⟩)
    · by_cases hc0 : cap = 0
      · subst hc0
        have c1 : w.drew.cell? ⟨b, 1, none⟩ = some (.slice (some ⟨g, 0, none⟩) 0 0) := by
          rw [cell?_drew, Lib.cell_of_heap hbk]; rfl
        have hSD : (Builtin.unsafeSliceData_ #[125] 222 #[.slice (some ⟨g, 0, none⟩) 0 0]).run Tryz.prog w.drew = .ok (.pointer (some ⟨w.drew.heap.size, 0, none⟩)) (w.drew.alloc (.view ⟨g, 0, none⟩ 5)) :=
          Lib.run_unsafeSliceData_zero w.drew _ _ 5 Tryz.underlying222 ⟨g, 0, none⟩ 0 (5, cur.size) (by have hg' : w.drew.heap[g]? = some (.cells cur 5 (0, 0)) := hg; simp [World.shape?, hg'])
        have c2 : (w.drew.alloc (.view ⟨g, 0, none⟩ 5)).cell? ⟨b, 1, none⟩ = some (.slice (some ⟨g, 0, none⟩) 0 0) := by
          have : (w.drew.alloc (.view ⟨g, 0, none⟩ 5)).heap[b]? = _ := (Lib.alloc_old w.drew _ b hlt).trans hbk
          rw [Lib.cell_of_heap this]; rfl
        have c3 : (w.alloc (.view ⟨g, 0, none⟩ 5)).drew.cell? ⟨b, 1, none⟩ = some (.slice (some ⟨g, 0, none⟩) 0 0) := c2
        have c0 : w.cell? ⟨b, 1, none⟩ = some (.slice (some ⟨g, 0, none⟩) 0 0) := c1
        clear hown hne hbk
        go_enter Tryz.func183, Tryz.ntmps183
        go_wp2
        go_region
        all_goals (go_wp2; go_ret; exact ⟨rfl, (KeepB.refl B w).drew.alloc hBw _⟩)
      · have c1 : w.drew.cell? ⟨b, 1, none⟩ = some (.slice (some ⟨g, 0, none⟩) 0 cap) := by
          rw [cell?_drew, Lib.cell_of_heap hbk]; rfl
        have hSD : (Builtin.unsafeSliceData_ #[125] 222 #[.slice (some ⟨g, 0, none⟩) 0 cap]).run Tryz.prog w.drew = .ok (.pointer (some ⟨g, 0, none⟩)) w.drew :=
          Lib.run_unsafeSliceData_row _ _ _ _ _ _ hc0
        clear hown hne hbk hc0
        go_enter Tryz.func183, Tryz.ntmps183
        go_wp2
        go_region
        all_goals (go_wp2; go_ret; exact ⟨rfl, (KeepB.refl B w).drew⟩)
  · have hl0 : l.length ≠ 0 := by simpa using h0
    obtain ⟨g, cap, cur, rfl, hbg, hg, hnc, hcm, hcs, htake⟩ : ∃ g cap cur, v = .slice (some ⟨g, 0, none⟩) l.length cap ∧ B ≤ g ∧ w.heap[g]? = some (.cells cur 5 (0, 0)) ∧ l.length ≤ cap ∧ cap ≤ maxLen ∧ cur.size = cap * 1 ∧ cur.toList.take (l.length * 1) = Lib.byteCells l := by
      rcases hown.2 with ⟨_, hz⟩ | ⟨g, cap, cur, hv, r⟩
      · exact absurd hz hl0
      · exact ⟨g, cap, cur, hv, r⟩
    have c1 : w.drew.cell? ⟨b, 1, none⟩ = some (.slice (some ⟨g, 0, none⟩) l.length cap) := by
      rw [cell?_drew, Lib.cell_of_heap hbk]; rfl
    have hSD : (Builtin.unsafeSliceData_ #[125] 222 #[.slice (some ⟨g, 0, none⟩) l.length cap]).run Tryz.prog w.drew = .ok (.pointer (some ⟨g, 0, none⟩)) w.drew :=
      Lib.run_unsafeSliceData_row _ _ _ _ _ _ (by omega)
    have hUS : (Builtin.unsafeString_ #[222, 3] 9 #[.pointer (some ⟨g, 0, none⟩), .int .i64 l.length]).run Tryz.prog w.drew = .ok (.string (bstr l)) (w.drew.freeze ⟨g, 0, none⟩ l.length) := by
      refine Lib.run_unsafeString_row w.drew 222 3 9 5 Tryz.underlying222 u8_cells g cur.size (by have hg' : w.drew.heap[g]? = some (.cells cur 5 (0, 0)) := hg; simp [World.shape?, hg']) l h0 (by omega) (by unfold maxLen at hcm; omega) ?_
      intro j x hx
      exact hown.cells (g := g) rfl j (.int .u8 x.toNat) (by simp [Lib.byteCells, hx])
    clear hown hne hbk htake hcs h0
    have hk : KeepB B w (w.drew.freeze ⟨g, 0, none⟩ l.length) := ⟨Lib.below_freeze (Below.drew (Below.refl B w)) (p := ⟨g, 0, none⟩) hbg _, fun a v hc => by rw [cell?_freeze]; exact hc⟩
    have HK := Lib.hid hk
    clear hk
    go_enter Tryz.func183, Tryz.ntmps183
    go_wp2
    go_region
    all_goals (go_wp2; go_ret; exact ⟨rfl, HK.out⟩)
set_option maxHeartbeats 1000000 in
set_option maxRecDepth 100000 in
theorem bld_Len (B b : Nat) (bs : List Value) (w : World) (h : Lib.IsBuilder 191 5 B b bs w) :
    Calls Tryz.prog 180 #[.pointer (some ⟨b, 0, none⟩)] w fun e w' => e = .returned (.int .i64 bs.length) ∧ w = w' := by
  obtain ⟨p, hB, v, hbk, hown, hne⟩ : ∃ p, Lib.BuilderAt 191 5 B b p bs w := by
    rcases h with h | h
    · exact ⟨_, h⟩
    · exact ⟨_, h⟩
  obtain ⟨ao, cap, rfl⟩ : ∃ ao cap, v = .slice ao bs.length cap := by
    rcases hown.2 with ⟨hv, h0⟩ | ⟨g, cap, cur, hv, _⟩
    · exact ⟨none, 0, by rw [hv, h0]⟩
    · exact ⟨_, _, hv⟩
  have c1 : w.cell? ⟨b, 1, none⟩ = some (.slice ao bs.length cap) := by rw [Lib.cell_of_heap hbk]; rfl
  clear h hbk hown hne
  go_enter Tryz.func180, Tryz.ntmps180
  go_wp2
  go_ret
  exact ⟨rfl, rfl⟩
end Go.Proofs.YtndmjfkmnjejkaaGreatDoor
/- Walk: a word rotated, by hash.turn and by the reference's right. -/
set_option linter.unusedVariables false
set_option linter.unusedSimpArgs false
namespace Go.Proofs.YtndmjfkmnjejkaaGreatDoor
open Go.RowKit
theorem run_shl {P : Program} (x : BitVec 32) (k : IntKind) (m : Nat) (hm : m ≤ 32) (w : World) : (Op.shift .shl .u32 (wi x) k (m : Int)).run P w = .ok (.int .u32 (wi (x <<< m))) w := by
  have e : min m 32 = m := by omega
  simp only [Op.shift, if_neg (show ¬ ((m : Int) < 0) by omega), Int.toNat_natCast, IntKind.bits, e, wi_shl]; rfl
theorem rot_all : ∀ n : Fin 32, n.val = 0 ∨ bits .and .u64 (IntKind.u64.wrap (-(n.val : Int))) 31 = ((32 - n.val : Nat) : Int) := by decide +kernel
theorem rot_and (n : Nat) (h0 : 0 < n) (h1 : n < 32) : bits .and .u64 (IntKind.u64.wrap (-(n : Int))) 31 = ((32 - n : Nat) : Int) := (rot_all ⟨n, h1⟩).resolve_left (by simp; omega)
theorem wi_div (x : BitVec 32) (n : Nat) : wi x / 2 ^ n = wi (x >>> n) := by rw [← wi_shr, Int.fdiv_eq_ediv_of_nonneg _ (Int.pow_nonneg (by decide))]
theorem rot_sub (n : Nat) (h0 : 0 < n) (h1 : n < 32) : IntKind.u64.wrap (32 - ((32 - n : Nat) : Int)) = n := by
  rw [IntKind.wrap_u64]; omega
set_option maxRecDepth 100000 in
theorem bits_rot (x : BitVec 32) (n : Nat) (h0 : 0 < n) (h1 : n < 32) (w : World) : Calls Tryz.prog 244 #[.int .u32 (wi x), .int .i64 (-(n : Int))] w (RetQ (.int .u32 (wi (rr x n))) w) := by
  have H1 : ∀ w, (Op.shift .shl .u32 (wi x) .u64 (bits .and .u64 (IntKind.u64.wrap (-(n : Int))) 31)).run Tryz.prog w = .ok (.int .u32 (wi (x <<< (32 - n)))) w := by
    intro w; rw [rot_and n h0 h1]; exact run_shl _ _ _ (by omega) _
  have H2 : wi x / 2 ^ min (IntKind.u64.wrap (32 - bits .and .u64 (IntKind.u64.wrap (-(n : Int))) 31)).toNat 32 = wi (x >>> n) := by
    rw [rot_and n h0 h1, rot_sub n h0 h1, Int.toNat_natCast, Nat.min_eq_left (by omega)]; exact wi_div _ _
  have H3 : bits .or .u32 (wi (x <<< (32 - n))) (wi (x >>> n)) = wi (rr x n) := by rw [wi_or, BitVec.or_comm]; rfl
  clear h0 h1
  go_enter Tryz.func244, Tryz.ntmps244
  go_wp2
  go_ret
  exact ⟨rfl, rfl⟩
set_option maxRecDepth 100000 in
theorem h_turn (x : BitVec 32) (n : Nat) (h0 : 0 < n) (h1 : n < 32) (w : World) : Calls Tryz.prog 238 #[.int .u32 (wi x), .int .i64 n] w (RetQ (.int .u32 (wi (rr x n))) w) := by
  go_enter Tryz.func238, Tryz.ntmps238
  go_wp2_with fail
  refine (bits_rot x n h0 h1 _).mono ?_
  rintro e w1 ⟨rfl, rfl⟩
  go_wp2
  go_ret
  exact ⟨rfl, rfl⟩
end Go.Proofs.YtndmjfkmnjejkaaGreatDoor
/- Walk: the constants and the first state; rows of words. -/
set_option linter.unusedVariables false
set_option linter.unusedSimpArgs false
namespace Go.Proofs.YtndmjfkmnjejkaaGreatDoor
open Go.RowKit
def W8.arr (s : W8) : Array Value := #[.int .u32 (wi s.a), .int .u32 (wi s.b), .int .u32 (wi s.c), .int .u32 (wi s.d), .int .u32 (wi s.e), .int .u32 (wi s.f), .int .u32 (wi s.g), .int .u32 (wi s.h)]
def wa (n : Nat) (f : Nat → BitVec 32) : Array Value := ((List.range n).map fun i => Value.int .u32 (wi (f i))).toArray
theorem wa_size (n : Nat) (f : Nat → BitVec 32) : (wa n f).size = n := by simp [wa]
theorem wa_get {n : Nat} (f : Nat → BitVec 32) {i : Nat} (h : i < n) : (wa n f)[i]? = some (.int .u32 (wi (f i))) := by simp [wa, h]
theorem wa_set {n : Nat} (f : Nat → BitVec 32) (i : Nat) (x : BitVec 32) : (wa n f).setIfInBounds i (.int .u32 (wi x)) = wa n (fun j => if j = i then x else f j) := by
  apply Array.ext_getElem?
  intro j
  rw [Array.getElem?_setIfInBounds]
  rcases Nat.lt_or_ge j n with h | h
  · rw [wa_get _ h, wa_get _ h, wa_size]
    by_cases e : i = j
    · subst e; simp [h]
    · rw [if_neg e, if_neg (Ne.symm e)]
  · rw [Array.getElem?_eq_none (by rw [wa_size]; exact h), Array.getElem?_eq_none (by rw [wa_size]; exact h)]
    by_cases e : i = j
    · subst e; simp [wa_size]; omega
    · rw [if_neg e]
theorem wa_congr {n : Nat} {f g : Nat → BitVec 32} (h : ∀ i, i < n → f i = g i) : wa n f = wa n g := by
  unfold wa; congr 1; apply List.map_congr_left; intro i hi; rw [h i (by simpa using hi)]
theorem wa_one (n : Nat) (f : Nat → BitVec 32) : (wa n f).all (·.oneCell') = true := by
  rw [Array.all_eq_true']; intro v hv; simp only [wa, List.mem_toArray, List.mem_map] at hv; obtain ⟨i, _, rfl⟩ := hv; rfl
theorem wa_zero (n : Nat) : wa n (fun _ => 0) = madeCells #[.int .u32 0] n := by
  apply Array.ext_getElem?
  intro j
  rcases Nat.lt_or_ge j n with h | h
  · rw [wa_get _ h]; unfold madeCells; simp [wi, h]; rw [Nat.mod_one]; rfl
  · rw [Array.getElem?_eq_none (by rw [wa_size]; exact h), Array.getElem?_eq_none (by rw [size_madeCells]; exact h)]
def RowW (w : World) (B n : Nat) (T : TypeId) (f : Nat → BitVec 32) : Prop := w.heap[B]? = some (.cells (wa n f) T (0, 0))
theorem RowW.cell {w : World} {B n : Nat} {T : TypeId} {f : Nat → BitVec 32} (h : RowW w B n T f) {k : Nat} (hk : k < n) : w.cell? ⟨B, k, none⟩ = some (.int .u32 (wi (f k))) := by
  rw [Lib.cell_of_heap h, wa_get f hk]
theorem RowW.free {w : World} {B n : Nat} {T : TypeId} {f : Nat → BitVec 32} (h : RowW w B n T f) (k : Nat) : w.frozen? ⟨B, k, none⟩ = false := Lib.frozen_of_heap h k
theorem RowW.set {w : World} {B n : Nat} {T : TypeId} {f : Nat → BitVec 32} (h : RowW w B n T f) (k : Nat) (x : BitVec 32) : RowW (w.setCell ⟨B, k, none⟩ (.int .u32 (wi x))) B n T (fun j => if j = k then x else f j) := by
  unfold RowW; rw [block_setCell h, wa_set]
theorem RowW.kept {w w' : World} {K B n : Nat} {T : TypeId} {f : Nat → BitVec 32} (h : RowW w B n T f) (hb : Below K w w') (hB : B < K) : RowW w' B n T f := (hb.block B hB).trans h
theorem RowW.drew {w : World} {B n : Nat} {T : TypeId} {f : Nat → BitVec 32} (h : RowW w B n T f) : RowW w.drew B n T f := h
theorem RowW.congr {w : World} {B n : Nat} {T : TypeId} {f g : Nat → BitVec 32} (h : RowW w B n T f) (hfg : ∀ i, i < n → f i = g i) : RowW w B n T g := by
  unfold RowW; rw [← wa_congr hfg]; exact h
set_option maxRecDepth 100000 in
theorem h_first (w : World) : Calls Tryz.prog 228 #[] w (Ret (.agg st0.arr) w) := by
  go_enter Tryz.func228, Tryz.ntmps228
  go_wp2
  refine bodyPost_ret (v := .agg st0.arr) (results_cell_row rfl _ _ w.heap.size 230 st0.arr (0, 0) _ rfl (heap_alloc_new _ _) Tryz.underlying230 rfl (by kernel_rfl)) rfl ⟨rfl, (Below.refl _ _).alloc (Nat.le_refl _) _⟩
set_option maxRecDepth 100000 in
theorem h_constants (w : World) : Calls Tryz.prog 236 #[] w (Ret (.agg (wa 64 kv)) w) := by
  go_enter Tryz.func236, Tryz.ntmps236
  iterate 2 go_step
  refine Great.wpList_allocTo rfl _ rfl (.pointer (some ⟨w.heap.size, 0, none⟩)) (.cells (madeCells #[.int .u32 0] 64) 240) (by kernel_rfl) ?_
  obtain ⟨W, hW⟩ : ∃ W, w.alloc (.cells (madeCells #[.int .u32 0] 64) 240) = W := ⟨_, rfl⟩
  have HB : Below w.heap.size w W := hW ▸ (Below.refl _ _).alloc (Nat.le_refl _) _
  have HC : W.heap[w.heap.size]? = some (.cells (madeCells #[.int .u32 0] 64) 240 (0, 0)) := hW ▸ heap_alloc_new _ _
  rw [hW]
  clear hW
  iterate 5 go_step
  refine wpList_buildFlatArrTo rfl 240 216 64 _ rfl .u32 (kL.map fun n : Nat => (n : Int)) (some 1) rfl (Tryz.underlying240) (by kernel_rfl) (by kernel_rfl) (by kernel_rfl) ?_
  refine wpList_store_rowTo rfl 240 _ _ rfl rfl w.heap.size (wa 64 kv) (by kernel_rfl) (by kernel_rfl) 240 _ HC (by kernel_rfl) (by kernel_rfl) (wa_one _ _) ?_
  obtain ⟨X, hX⟩ : ∃ X, W.setRow w.heap.size (wa 64 kv) = X := ⟨_, rfl⟩
  have HB2 : Below w.heap.size w X := hX ▸ below_setRow HB (Nat.le_refl _) _
  have HC2 : X.heap[w.heap.size]? = some (.cells (wa 64 kv) 240 (0, 0)) := hX ▸ setRow_heap _ _ _ _ _ _ HC
  rw [hX]
  clear hX HB HC
  go_wp2
  refine bodyPost_ret (v := .agg (wa 64 kv)) (results_cell_row rfl _ _ w.heap.size 240 (wa 64 kv) (0, 0) _ rfl HC2 Tryz.underlying240 rfl (by rw [wa_size]; kernel_rfl)) rfl ⟨rfl, HB2⟩
end Go.Proofs.YtndmjfkmnjejkaaGreatDoor

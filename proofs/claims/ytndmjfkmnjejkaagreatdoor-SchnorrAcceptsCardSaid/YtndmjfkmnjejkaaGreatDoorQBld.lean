/- The arguments opened: a group, a tape, an integer, a signer. -/
import Derived.Test.YtndmjfkmnjejkaaGreatDoorQOpT
import Derived.Deep.Slices
import Derived.Test.YtndmjfkmnjejkaaGreatDoorQCoB
import Derived.Test.YtndmjfkmnjejkaaGreatDoorQNum2
import Derived.Test.YtndmjfkmnjejkaaGreatDoorRows
import Derived.Lib.Strings
import Derived.Lib.Builder
import Derived.Lib.AppendStr
import Derived.Lib.UnsafeStr
import Derived.RegionTactic
set_option linter.unusedVariables false
set_option linter.unusedSimpArgs false
namespace Go.Proofs.YtndmjfkmnjejkaaGreatDoor
open Go.ChangeShapes Go.WideShapes Go.ChangeAt Go.Deep Go.Joins Go.RowKit
open Go.ChangeMaps (open_string shut_string)
theorem array9T {α : Type} {cs : Array α} (h : cs.size = 9) : ∃ a b c d e f g h i, cs = #[a, b, c, d, e, f, g, h, i] := by
  obtain ⟨l⟩ := cs
  match l, h with
  | [a, b, c, d, e, f, g, h, i], _ => exact ⟨a, b, c, d, e, f, g, h, i, rfl⟩
section
variable {H : Type} {enc : TypeId × Value → H} {W : World} {sp : Nat → Bool} {held : Bool}
set_option maxRecDepth 100000 in
theorem open_groupS {r : Reach} {b0 : Nat} {v : Value} {d : DataW H} {p : List MemPlace} (hv : Value.okWide Tryz.prog W r b0 24 v) (h : DataW.Trod enc Tryz.prog W 0 (fun _ => true) held 24 v d p) : ∃ M O : ByteArray, v = gV M O := by
  obtain ⟨cs, rfl, hsz⟩ := okWide_struct Tryz.underlying24 hv
  obtain ⟨c0, c1, rfl⟩ := array2 (hsz.trans (show Tryz.prog.cellsOf 24 = 2 from by kernel_rfl))
  obtain ⟨fuel, hf⟩ := h
  have hf : DataW.trod enc Tryz.prog W 0 (fun _ => true) held fuel 24 [c0, c1] = some (d, p) := hf
  obtain ⟨n2, y2, g2⟩ := trod_at Tryz.underlying24 hf 0 _ rfl 1 (by kernel_rfl)
  have g2 : DataW.trod enc Tryz.prog W 0 (fun _ => true) held n2 22 [c0] = some y2 := g2
  obtain ⟨n3, y3, g3⟩ := trod_at Tryz.underlying24 hf 1 _ rfl 1 (by kernel_rfl)
  have g3 : DataW.trod enc Tryz.prog W 0 (fun _ => true) held n3 22 [c1] = some y3 := g3
  obtain ⟨s0, e0, _⟩ := DataW.trod_string Tryz.underlying22 g2
  obtain ⟨s1, e1, _⟩ := DataW.trod_string Tryz.underlying22 g3
  simp only [List.cons.injEq, and_true] at e0 e1
  subst e0 e1
  exact ⟨s0, s1, rfl⟩
theorem open_tapeC {fuel : Nat} {c0 c1 c2 : Value} {x : DataW H × List MemPlace} (h : DataW.trod enc Tryz.prog W 0 (fun _ => true) held fuel 31 [c0, c1, c2] = some x) : ∃ (A : Option Addr) (n cap : Nat) (l : List ByteArray) (s : ByteArray) (k : Int), c0 = .slice A n cap ∧ c1 = .string s ∧ c2 = .int .i64 k ∧ SlN W A n cap l := by
  obtain ⟨n1, y1, g1⟩ := trod_at Tryz.underlying31 h 0 _ rfl 1 (by kernel_rfl)
  have g1 : DataW.trod enc Tryz.prog W 0 (fun _ => true) held n1 29 [c0] = some y1 := g1
  obtain ⟨n2, y2, g2⟩ := trod_at Tryz.underlying31 h 1 _ rfl 1 (by kernel_rfl)
  have g2 : DataW.trod enc Tryz.prog W 0 (fun _ => true) held n2 9 [c1] = some y2 := g2
  obtain ⟨n3, y3, g3⟩ := trod_at Tryz.underlying31 h 2 _ rfl 1 (by kernel_rfl)
  have g3 : DataW.trod enc Tryz.prog W 0 (fun _ => true) held n3 3 [c2] = some y3 := g3
  obtain ⟨A, n, cap, l, e0, hs, _⟩ := open_natsC g1
  obtain ⟨s, e1, _⟩ := DataW.trod_string Tryz.underlying9 g2
  obtain ⟨k, e2, _⟩ := DataW.trod_int Tryz.underlying3 g3
  simp only [List.cons.injEq, and_true] at e0 e1 e2
  exact ⟨A, n, cap, l, s, k, e0, e1, e2, hs⟩
end
end Go.Proofs.YtndmjfkmnjejkaaGreatDoor
/- Plain: frames and hashes of transcripts; what a challenge is. -/
set_option linter.unusedVariables false
set_option linter.unusedSimpArgs false
namespace Go.Proofs.YtndmjfkmnjejkaaGreatDoor
open Go.RowKit
def ptL (l : List (List UInt8)) : List UInt8 := l.flatMap fun s => shE8 s.length ++ s
def frL (k : UInt8) (l : List (List UInt8)) : List UInt8 := k :: shE8 l.length ++ ptL l
def trH (k : UInt8) (l : List (List UInt8)) : List UInt8 := shaL (frL k l)
theorem ptL_snoc (l : List (List UInt8)) (s : List UInt8) : ptL (l ++ [s]) = ptL l ++ shE8 s.length ++ s := by simp [ptL]
theorem ptL_length (l : List (List UInt8)) : (ptL l).length = 8 * l.length + (l.map List.length).sum := by
  induction l with
  | nil => rfl
  | cons a l ih => simp only [ptL, List.flatMap_cons, List.length_append, List.map_cons, List.sum_cons, List.length_cons] at ih ⊢; rw [ih]; simp [shE8]; omega
theorem trH_length (k : UInt8) (l : List (List UInt8)) : (trH k l).length = 32 := shaL_length _
theorem sum_le_all {l : List (List UInt8)} {m : Nat} (h : ∀ s ∈ l, s.length ≤ m) : (l.map List.length).sum ≤ l.length * m := by
  induction l with
  | nil => simp
  | cons a l ih =>
    have h1 := h a (by simp)
    have h2 := ih fun s hs => h s (by simp [hs])
    simp only [List.map_cons, List.sum_cons, List.length_cons, Nat.succ_mul]
    omega
def chL (st : List UInt8) (n q : Nat) : Nat := bnat ((trH 67 [st, shE8 0]).take (n + 8)) % q
def snL (M O G Y r msg : List UInt8) : List UInt8 :=
  trH 65 [trH 76 [trH 76 [trH 78 [[115, 99, 104, 110, 111, 114, 114, 32, 115, 105, 103, 110, 97, 116, 117, 114, 101]], [107, 101, 121], M, O, G, Y], [99, 111, 109, 109, 105, 116, 109, 101, 110, 116], r], [109, 101, 115, 115, 97, 103, 101], msg]
def chS (M O G Y : ByteArray) (r : Nat) (msg : ByteArray) : Nat :=
  chL (snL M.data.toList O.data.toList G.data.toList Y.data.toList (nS r).data.toList msg.data.toList) O.size (num O)
end Go.Proofs.YtndmjfkmnjejkaaGreatDoor
/- Walks: the writing methods of strings.Builder, at a builder that the call itself has made. -/
namespace Go.Proofs.YtndmjfkmnjejkaaGreatDoor
open Go.RowKit
theorem bld_size : (Tryz.prog.info? 191).map (·.size) = some 2 := by kernel_rfl
theorem bld_lies : liesAt Tryz.prog Tryz.prog.depth 191 (2 / Tryz.prog.cellsOf 191) 0 191 1 = true := by kernel_rfl
theorem u8_infoB : (Tryz.prog.info? 5).map (fun i => (i.zero, i.size, i.bytes)) = some (some (.int .u8 0), 1, 1) := by kernel_rfl
set_option maxHeartbeats 1000000 in
set_option maxRecDepth 100000 in
theorem bld_check_used (b : Nat) (w : World) (h0 : w.cell? ⟨b, 0, none⟩ = some (.pointer (some ⟨b, 0, none⟩))) :
    Calls Tryz.prog 212 #[.pointer (some ⟨b, 0, none⟩)] w fun e w' => e = .returned (.tuple #[]) ∧ w = w' := by
  obtain ⟨j, hj, _⟩ := Option.map_eq_some_iff.1 bld_size
  have hne := Lib.run_neq_ptr_same (P := Tryz.prog) w ⟨b, 0, none⟩ Tryz.underlying189 hj
  go_enter Tryz.func212, Tryz.ntmps212
  go_wp2
  go_end0
  exact ⟨rfl, rfl⟩
set_option maxHeartbeats 1000000 in
set_option maxRecDepth 100000 in
theorem bld_check_fresh (b : Nat) (w : World) (h0 : w.cell? ⟨b, 0, none⟩ = some (.pointer none)) (hsh : w.shape? b = some (191, 2)) (hfz : w.frozen? ⟨b, 0, none⟩ = false) :
    Calls Tryz.prog 212 #[.pointer (some ⟨b, 0, none⟩)] w fun e w' => e = .returned (.tuple #[]) ∧ w.setCell ⟨b, 0, none⟩ (.pointer (some ⟨b, 0, none⟩)) = w' := by
  obtain ⟨j, hj, hjs⟩ := Option.map_eq_some_iff.1 bld_size
  go_enter Tryz.func212, Tryz.ntmps212
  go_wp2
  rw [Lib.run_to_unsafe w ⟨b, 0, none⟩ Tryz.underlying189 Tryz.underlying233 hj (by rw [hjs]; decide) hsh (Nat.zero_lt_succ 1)]
  simp only [Result.andThen]
  rw [Oper.upon_value]
  go_wp2
  rw [run_callFunc_extern Tryz.func230 (by kernel_rfl) (by kernel_rfl) (by kernel_rfl) (e := Extern.AbiNoEscape.same) (by kernel_rfl)]
  rw [Lib.run_noEscape]
  simp only [Result.andThen]
  rw [Oper.upon_value]
  go_wp2
  rw [Lib.run_from_unsafe w ⟨b, 0, none⟩ Tryz.underlying233 Tryz.underlying189 hj hsh bld_lies]
  simp only [Result.andThen]
  rw [Oper.upon_value]
  go_wp2
  go_end0
  exact ⟨rfl, rfl⟩
theorem bld_check (B b : Nat) (bs : List Value) (w : World) (h : Lib.IsBuilder 191 5 B b bs w) :
    Calls Tryz.prog 212 #[.pointer (some ⟨b, 0, none⟩)] w fun e w' => e = .returned (.tuple #[]) ∧ (Lib.BuilderAt 191 5 B b (.pointer (some ⟨b, 0, none⟩)) bs w' ∧ Below B w w') := by
  rcases h with h | h
  · refine (bld_check_fresh b w h.cell0 h.shape h.frozen0).mono ?_
    rintro e w' ⟨rfl, rfl⟩
    exact ⟨rfl, h.used _, (Below.refl B w).setCell (p := ⟨b, 0, none⟩) h.1 _⟩
  · refine (bld_check_used b w h.cell0).mono ?_
    rintro e w' ⟨rfl, rfl⟩
    exact ⟨rfl, h, Below.refl B _⟩
set_option maxHeartbeats 1000000 in
set_option maxRecDepth 100000 in
theorem bld_WriteString (B b : Nat) (bs : List Value) (s : ByteArray) (w : World) (h : Lib.IsBuilder 191 5 B b bs w) (hlen : bs.length + s.size ≤ 140737488355328) (hBw : B ≤ w.heap.size) :
    Calls Tryz.prog 182 #[.pointer (some ⟨b, 0, none⟩), .string s] w fun e w' => e = .returned (.tuple #[.int .i64 s.size, .nilIface]) ∧
      (Lib.IsBuilder 191 5 B b (bs ++ Lib.strCells s) w' ∧ Below B w w') := by
  obtain ⟨i0, hi, hz0, hz1, hz2⟩ := info_parts u8_infoB
  go_enter Tryz.func182, Tryz.ntmps182
  go_wp2_with fail
  refine (bld_check B b bs _ h).mono ?_
  rintro e w1 ⟨rfl, h1, hb1⟩
  obtain ⟨hB, v, hbk, hown, hne⟩ := h1
  have c0 : w1.cell? ⟨b, 0, none⟩ = some (.pointer (some ⟨b, 0, none⟩)) := by rw [Lib.cell_of_heap hbk]; rfl
  have c1 : w1.cell? ⟨b, 1, none⟩ = some v := by rw [Lib.cell_of_heap hbk]; rfl
  go_wp2_with (at_builtin; refine Lib.wpList_append_own_string _ rfl _ _ 125 9 rfl B 5 i0 Tryz.underlying125 Tryz.underlying9 hi hz0 hz1 hz2 _ _ _ rfl hown s rfl ?c3 ?c4 ?c5 ?_)
  case c3 => unfold maxLen; omega
  case c4 => omega
  case c5 => have := hb1.size; omega
  intro v' w2 hown' hgrow _
  have hlt : b < w1.heap.size := by
    rcases Nat.lt_or_ge b w1.heap.size with h' | h'
    · exact h'
    · rw [Array.getElem?_eq_none h'] at hbk; cases hbk
  have hb2 : w2.heap[b]? = some (.cells #[.pointer (some ⟨b, 0, none⟩), v] 191 (0, 0)) := by
    rw [hgrow.block b hlt (fun e => hne e.symm)]
    exact hbk
  have d0 : w2.cell? ⟨b, 0, none⟩ = some (.pointer (some ⟨b, 0, none⟩)) := by rw [Lib.cell_of_heap hb2]; rfl
  have d1 : w2.cell? ⟨b, 1, none⟩ = some v := by rw [Lib.cell_of_heap hb2]; rfl
  have f1 : w2.frozen? ⟨b, 1, none⟩ = false := Lib.frozen_of_heap hb2 1
  obtain ⟨ao, n', cap, rfl⟩ : ∃ ao n' cap, v' = .slice ao n' cap := by
    rcases hown'.2 with ⟨hv, _⟩ | ⟨g, cap, cur, hv, _⟩
    · exact ⟨_, _, _, hv⟩
    · exact ⟨_, _, _, hv⟩
  go_wp2
  go_ret2
  refine ⟨rfl, .inr ?_, ?_⟩
  · exact Lib.BuilderAt.put hB hb2 (bs' := bs ++ Lib.strCells s) (by simpa [Lib.strCells_length] using hown') (by decide)
  · exact (hb1.grown hgrow (by have := hb1.size; omega) (fun k hk => (hown.lt k hk).1)).setCell (p := ⟨b, 1, none⟩) hB _
theorem u8_cells : Tryz.prog.cellsOf 5 = 1 := by kernel_rfl
theorem bld_kept {B b : Nat} {bs : List Value} {w w' : World} (h : Lib.IsBuilder 191 5 B b bs w) (hb : Below w.heap.size w w') : Lib.IsBuilder 191 5 B b bs w' := by
  rcases h with ⟨h1, v, h2, h3, h4⟩ | ⟨h1, v, h2, h3, h4⟩
  · exact .inl ⟨h1, v, block_kept hb (Nat.le_refl _) h2, owns_kept h3 hb (Nat.le_refl _), h4⟩
  · exact .inr ⟨h1, v, block_kept hb (Nat.le_refl _) h2, owns_kept h3 hb (Nat.le_refl _), h4⟩
set_option maxHeartbeats 2000000 in
set_option maxRecDepth 100000 in
theorem bld_String (B b : Nat) (l : List UInt8) (w : World) (h : Lib.IsBuilder 191 5 B b (Lib.byteCells l) w) (hBw : B ≤ w.heap.size) :
    Calls Tryz.prog 183 #[.pointer (some ⟨b, 0, none⟩)] w fun e w' => e = .returned (.string (bstr l)) ∧ KeepB B w w' := by
  obtain ⟨p, hB, v, hbk, hown, hne⟩ : ∃ p, Lib.BuilderAt 191 5 B b p (Lib.byteCells l) w := by
    rcases h with h | h
    · exact ⟨_, h⟩
    · exact ⟨_, h⟩
  clear h
  have hlt : b < w.heap.size := block_lt hbk
  rw [Lib.byteCells_length] at hown
  by_cases h0 : l = []
  · subst h0
    have hUS : ∀ (W : World) (q : Option Addr), (Builtin.unsafeString_ #[222, 3] 9 #[.pointer q, .int .i64 0]).run Tryz.prog W = .ok (.string .empty) W := fun W q => Lib.run_unsafeString_none W _ _ _ q
    rcases hown.2 with ⟨rfl, _⟩ | ⟨g, cap, cur, rfl, hbg, hg, _, _, _, _⟩
    · have c1 : w.drew.cell? ⟨b, 1, none⟩ = some (.slice none 0 0) := by
        rw [cell?_drew, Lib.cell_of_heap hbk]; rfl
      have hSD : (Builtin.unsafeSliceData_ #[125] 222 #[.slice none 0 0]).run Tryz.prog w.drew = .ok (.pointer none) w.drew := rfl
      clear hown hne hbk
      go_enter Tryz.func183, Tryz.ntmps183
      go_wp2
      go_region
      all_goals (go_wp2; go_ret; exact ⟨rfl, (KeepB.refl B w).drew⟩)
    · by_cases hc0 : cap = 0
      · subst hc0
        have c1 : w.drew.cell? ⟨b, 1, none⟩ = some (.slice (some ⟨g, 0, none⟩) 0 0) := by
          rw [cell?_drew, Lib.cell_of_heap hbk]; rfl
        have hSD : (Builtin.unsafeSliceData_ #[125] 222 #[.slice (some ⟨g, 0, none⟩) 0 0]).run Tryz.prog w.drew = .ok (.pointer (some ⟨w.drew.heap.size, 0, none⟩)) (w.drew.alloc (.view ⟨g, 0, none⟩ 5)) :=
          Lib.run_unsafeSliceData_zero w.drew _ _ 5 Tryz.underlying222 ⟨g, 0, none⟩ 0 (5, cur.size) (by have hg' : w.drew.heap[g]? = some (.cells cur 5 (0, 0)) := hg; simp [World.shape?, hg'])
        have c2 : (w.drew.alloc (.view ⟨g, 0, none⟩ 5)).cell? ⟨b, 1, none⟩ = some (.slice (some ⟨g, 0, none⟩) 0 0) := by
          have : (w.drew.alloc (.view ⟨g, 0, none⟩ 5)).heap[b]? = _ := (Lib.alloc_old w.drew _ b hlt).trans hbk
          rw [Lib.cell_of_heap this]; rfl
        have c3 : (w.alloc (.view ⟨g, 0, none⟩ 5)).drew.cell? ⟨b, 1, none⟩ = some (.slice (some ⟨g, 0, none⟩) 0 0) := c2
        have c0 : w.cell? ⟨b, 1, none⟩ = some (.slice (some ⟨g, 0, none⟩) 0 0) := c1
        clear hown hne hbk
        go_enter Tryz.func183, Tryz.ntmps183
        go_wp2
        go_region
        all_goals (go_wp2; go_ret; exact ⟨rfl, (KeepB.refl B w).drew.alloc hBw _⟩)
      · have c1 : w.drew.cell? ⟨b, 1, none⟩ = some (.slice (some ⟨g, 0, none⟩) 0 cap) := by
          rw [cell?_drew, Lib.cell_of_heap hbk]; rfl
        have hSD : (Builtin.unsafeSliceData_ #[125] 222 #[.slice (some ⟨g, 0, none⟩) 0 cap]).run Tryz.prog w.drew = .ok (.pointer (some ⟨g, 0, none⟩)) w.drew :=
          Lib.run_unsafeSliceData_row _ _ _ _ _ _ hc0
        clear hown hne hbk hc0
        go_enter Tryz.func183, Tryz.ntmps183
        go_wp2
        go_region
        all_goals (go_wp2; go_ret; exact ⟨rfl, (KeepB.refl B w).drew⟩)
  · have hl0 : l.length ≠ 0 := by simpa using h0
    obtain ⟨g, cap, cur, rfl, hbg, hg, hnc, hcm, hcs, htake⟩ : ∃ g cap cur, v = .slice (some ⟨g, 0, none⟩) l.length cap ∧ B ≤ g ∧ w.heap[g]? = some (.cells cur 5 (0, 0)) ∧ l.length ≤ cap ∧ cap ≤ maxLen ∧ cur.size = cap * 1 ∧ cur.toList.take (l.length * 1) = Lib.byteCells l := by
      rcases hown.2 with ⟨_, hz⟩ | ⟨g, cap, cur, hv, r⟩
      · exact absurd hz hl0
      · exact ⟨g, cap, cur, hv, r⟩
    have c1 : w.drew.cell? ⟨b, 1, none⟩ = some (.slice (some ⟨g, 0, none⟩) l.length cap) := by
      rw [cell?_drew, Lib.cell_of_heap hbk]; rfl
    have hSD : (Builtin.unsafeSliceData_ #[125] 222 #[.slice (some ⟨g, 0, none⟩) l.length cap]).run Tryz.prog w.drew = .ok (.pointer (some ⟨g, 0, none⟩)) w.drew :=
      Lib.run_unsafeSliceData_row _ _ _ _ _ _ (by omega)
    have hUS : (Builtin.unsafeString_ #[222, 3] 9 #[.pointer (some ⟨g, 0, none⟩), .int .i64 l.length]).run Tryz.prog w.drew = .ok (.string (bstr l)) (w.drew.freeze ⟨g, 0, none⟩ l.length) := by
      refine Lib.run_unsafeString_row w.drew 222 3 9 5 Tryz.underlying222 u8_cells g cur.size (by have hg' : w.drew.heap[g]? = some (.cells cur 5 (0, 0)) := hg; simp [World.shape?, hg']) l h0 (by omega) (by unfold maxLen at hcm; omega) ?_
      intro j x hx
      exact hown.cells (g := g) rfl j (.int .u8 x.toNat) (by simp [Lib.byteCells, hx])
    clear hown hne hbk htake hcs h0
    have hk : KeepB B w (w.drew.freeze ⟨g, 0, none⟩ l.length) := ⟨Lib.below_freeze (Below.drew (Below.refl B w)) (p := ⟨g, 0, none⟩) hbg _, fun a v hc => by rw [cell?_freeze]; exact hc⟩
    have HK := Lib.hid hk
    clear hk
    go_enter Tryz.func183, Tryz.ntmps183
    go_wp2
    go_region
    all_goals (go_wp2; go_ret; exact ⟨rfl, HK.out⟩)
end Go.Proofs.YtndmjfkmnjejkaaGreatDoor

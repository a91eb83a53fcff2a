/- The iterator modular.digits: what comes, and in which order. -/
import Derived.Test.YtndmjfkmnjejkaaGreatDoorQBit
import Derived.Test.YtndmjfkmnjejkaaGreatDoorQInt
import Derived.RangeFuncNested
import Derived.RangeFuncBound
import Derived.RangeFuncCalls
import Derived.RangeFuncLeaves
import Derived.RangeFuncFrom
import Derived.Shelf.Abstract
import Derived.Shelf.RegionOpen
import Derived.WalkKit
import Derived.OwnWalkIn
import Derived.TacticsInMore
import Derived.LoopNIn
import Derived.LoopIn
import Derived.Test.YtndmjfkmnjejkaaGreatDoorQRowN
import Derived.Deep.DeepCutAuto
import Derived.Deep.CutBlock
set_option linter.unusedVariables false
set_option linter.unusedSimpArgs false
namespace Go.Proofs.YtndmjfkmnjejkaaGreatDoor
open Go.RowKit Go.Shelf
attribute [local go_sem] Oper.semAt_some
def dv (l : List Bool) : Nat := l.foldl (fun v b => 2 * v + (if b then 1 else 0)) 0
theorem dv_snoc (l : List Bool) (b : Bool) : dv (l ++ [b]) = 2 * dv l + (if b then 1 else 0) := by simp [dv]
theorem dv_step {n e : Nat} {pre : List Bool} (h : dv pre = n / 2 ^ (e + 1)) : dv (pre ++ [bitB n e]) = n / 2 ^ e := by
  rw [dv_snoc, h]
  unfold bitB
  rw [Nat.pow_succ, ← Nat.div_div_eq_div_mul]
  simp only [beq_iff_eq]
  split <;> omega
def KpD (D : Nat) (W W' : World) : Prop := W'.heap[D]? = W.heap[D]?
set_option maxRecDepth 100000 in
set_option maxHeartbeats 2000000 in
theorem digits_stops (k n : Nat) (hn : n < 256 ^ 128) (hk : 1 ≤ k) (D : Nat) (w : World) (hD : w.heap[D]? = some (.cells #[.string (nS n)] 22 (0, 0))) :
    SeqStopsK Fence.wide k Tryz.prog 242 #[.pointer (some ⟨D, 0, none⟩)] (fun b : Bool => #[Value.bool b]) (KpD D) (fun xs => dv xs = n) (fun _ => True) (blen n) w := fun l J Jx W hW hJ hJx hY h0 => by
  have HBS := Lib.hid (nat_Bits n hn)
  have hb := hW
  have HBT := Lib.hid (fun i hi => nat_Bit n i hn hi)
  have hDW : W.heap[D]? = some (.cells #[.string (nS n)] 22 (0, 0)) := by rw [hW.block D (block_lt hD)]; exact hD
  have hcl : ∀ W' : World, W'.heap[D]? = some (.cells #[.string (nS n)] 22 (0, 0)) → W'.cell? ⟨D, 0, none⟩ = some (.string (nS n)) := fun W' h => by rw [Lib.cell_of_heap h]; rfl
  have HCL := Lib.hid hcl
  have c0 := hcl W hDW
  have HE0 := Lib.hid (show n / 2 ^ blen n = 0 from Nat.div_eq_of_lt (blen_lt n))
  have hbn : blen n ≤ 1024 := blen_le8 (k := 128) hn
  obtain ⟨s, hs⟩ : ∃ s, nS n = s := ⟨_, rfl⟩
  rw [hs] at HBS HBT HCL c0 hDW
  obtain ⟨B, hB⟩ : ∃ B, blen n = B := ⟨_, rfl⟩
  rw [hB] at HBS HE0 hbn hY
  have HY := Lib.hid hY
  clear hY hcl hs hB hD hn hW hb
  refine callsIn_of_wp Tryz.func242 rfl trivial ?_ rfl
  simp only [Tryz.ntmps242, List.size_toArray, List.length_cons, List.length_nil, Nat.reduceAdd, Nat.reduceSub, Array.replicate_succ, Array.replicate_zero, List.push_toArray, List.append_toArray, List.nil_append, List.cons_append]
  gi_wp2
  refine ⟨trivial, callsIn_wide.2 ((HBS.out _).mono ?_)⟩
  rintro e w' ⟨rfl, rfl⟩
  gi_wp2
  gi_loopw [3] (fun i wr => ∃ (K : Nat) (pre : List Bool), K ≤ B ∧ i = .int .i64 ((K : Int) - 1) ∧ pre.length + K = B ∧ dv pre = n / 2 ^ K ∧ wr.heap[D]? = some (.cells #[.string s] 22 (0, 0)) ∧ J pre wr) (fun i _ => (intOf i + 1).toNat)
  case atStart => exact ⟨B, [], Nat.le_refl _, by go_num, by simp, by rw [HE0.out]; rfl, hDW, h0⟩
  case round =>
    obtain ⟨K, pre, hK, rfl, hlen, hdv, hDr, hJr⟩ := hrel
    have HDV := Lib.hid hdv
    have HLEN := Lib.hid hlen
    have HDR := Lib.hid hDr
    have c1 := HCL.out _ hDr
    clear hdv hlen hDr
    by_cases hlt : 0 < K
    · obtain ⟨e, rfl⟩ : ∃ e, K = e + 1 := ⟨K - 1, by omega⟩
      rw [show ((e + 1 : Nat) : Int) - 1 = (e : Int) from by omega]
      have he0 : (0 : Int) ≤ (e : Int) := by omega
      have HST := Lib.hid (dv_step HDV.out)
      obtain ⟨b, hbb⟩ : ∃ b, bitB n e = b := ⟨_, rfl⟩
      have HBE := Lib.hid (HBT.out e (by omega))
      rw [hbb] at HST HBE
      clear hbb
      obtain ⟨fn, tmps, assign, body, hy, hR⟩ := HY.out pre b wr hJr (by have := HLEN.out; omega)
      have HR := Lib.hid hR
      clear hR
      gi_wp2
      refine ⟨trivial, callsIn_wide.2 ((HBE.out _).mono ?_)⟩
      rintro ev w' ⟨rfl, rfl⟩
      gi_wp2
      refine HR.out.mono ?_
      rintro ev W' (⟨rfl, hJ', hk'⟩ | ⟨rfl, hJx'⟩)
      · have HJ' := Lib.hid hJ'
        have HK' := Lib.hid hk'
        clear hJ' hk'
        gi_wp2
        go_roundw
        case rel => exact ⟨e, pre ++ [b], by omega, by go_num, by have := HLEN.out; simp; omega, HST.out, by rw [HK'.out]; exact HDR.out, HJ'.out⟩
        case measure => simp [intOf] <;> omega
      · gi_wp2
        refine bodyPost_ret (results_none rfl _ _ _) rfl ?_
        exact ⟨⟨_, rfl⟩, .inr ⟨pre ++ [b], trivial, hJx'⟩⟩
    · obtain rfl : K = 0 := by omega
      have hneg : ((0 : Nat) : Int) - 1 = -1 := rfl
      rw [hneg]
      gi_wp2
      go_end0
      exact ⟨⟨_, rfl⟩, .inl ⟨pre, by rw [HDV.out, Nat.pow_zero, Nat.div_one], hJr⟩⟩
end Go.Proofs.YtndmjfkmnjejkaaGreatDoor
/- Walk: dominoref01.Times in columns. -/
set_option linter.unusedVariables false
set_option linter.unusedSimpArgs false
namespace Go.Proofs.YtndmjfkmnjejkaaGreatDoor
open Go.RowKit
def zi (n : Nat) : Array Value := madeCells #[.int .i64 0] n
theorem zi_size (n : Nat) : (zi n).size = n := size_madeCells _ _
theorem int_info : (Tryz.prog.info? 3).map (fun i => (i.zero, i.size, i.bytes)) = some (some (.int .i64 0), 1, 8) := by kernel_rfl
theorem make_ints (n : Nat) (hn : n ≤ 1000000) (w : World) : (Instr.makeSlice 213 (.int .i64 n) (.int .i64 n)).run Tryz.prog w = .ok (.slice (some ⟨w.heap.size, 0, none⟩) n n) (w.alloc (.cells (zi n) 3)) := by
  obtain ⟨i0, hi, hz0, hz1, hz2⟩ := info_parts int_info
  have h := run_make (P := Tryz.prog) w 213 3 i0 (.int .i64 0) Tryz.underlying213 hi hz0 .i64 .i64 (n : Int) (n : Int) (by omega) (Int.le_refl _) (by rw [hz2]; omega) (by omega)
  rw [h, hz1, Int.toNat_natCast, Nat.mul_one]
  rfl
def cs (f : Nat → Nat) : Nat → Nat → Nat
  | 0, _ => 0
  | n + 1, i => f i + 256 * cs f n (i + 1)
end Go.Proofs.YtndmjfkmnjejkaaGreatDoor
/- Walk: dominoref01.Over, bit by bit. -/
set_option linter.unusedVariables false
set_option linter.unusedSimpArgs false
namespace Go.Proofs.YtndmjfkmnjejkaaGreatDoor
open Go.RowKit
theorem num_one : (nS 1) = ⟨#[1]⟩ := rfl
end Go.Proofs.YtndmjfkmnjejkaaGreatDoor

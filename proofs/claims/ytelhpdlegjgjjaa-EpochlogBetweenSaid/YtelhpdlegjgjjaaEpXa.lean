/- The iterator epochlog.deltas: what comes. -/
import Derived.Test.YtelhpdlegjgjjaaEpX
import Derived.RangeFuncNested
import Derived.RangeFuncBound
import Derived.RangeFuncCalls
import Derived.RangeFuncLeaves
import Derived.RangeFuncFrom
import Derived.Shelf.Abstract
import Derived.Shelf.RegionOpen
import Derived.WalkKit
import Derived.OwnWalkIn
import Derived.TacticsInMore
import Derived.LoopNIn
import Derived.LoopIn
set_option linter.unusedVariables false
set_option linter.unusedSimpArgs false
namespace Go.Proofs.Ytelhpdlegjgjjaa
open Go.RowKit Go.Shelf
attribute [local go_sem] Oper.semAt_some

theorem grown_of_below {W W' : World} (h : Below W.heap.size W W') : W.grownBy W' none := ⟨h.os, h.tape, h.output, h.size, fun k hk _ => h.block k hk⟩
theorem abides_below {β : Type} {B : Nat} {J : β → World → Prop} (hJ : AbidesFrom B J) {s : β} {W W' : World} (h : J s W) (hb : Below W.heap.size W W') : J s W' := hJ s W W' none h (grown_of_below hb) (fun r e => by cases e)
/-- A delta with its slices. -/
structure DV where
  d : Dl
  A1 : Option Addr
  n1 : Nat
  c1 : Nat
  A2 : Option Addr
  n2 : Nat
  c2 : Nat
/-- It lies in memory, and is small. -/
structure DVok (w : World) (x : DV) : Prop where
  s1 : SlN w x.A1 x.n1 x.c1 x.d.ad
  s2 : SlN w x.A2 x.n2 x.c2 x.d.rm
  few : FewD x.d
  sz : SzL x.d.str
abbrev DX (w : World) := { x : DV // DVok w x }
def DX.enc {w : World} (x : DX w) : Array Value := #[.agg (x.val.d.arr (.slice x.val.A1 x.val.n1 x.val.c1) (.slice x.val.A2 x.val.n2 x.val.c2))]
/-- The blocks below B stay. -/
def KpB (B : Nat) (W W' : World) : Prop := W.heap.size ≤ W'.heap.size ∧ ∀ k, k < B → W'.heap[k]? = W.heap[k]?
theorem KpB.refl (B : Nat) (W : World) : KpB B W W := ⟨Nat.le_refl _, fun _ _ => rfl⟩
theorem KpB.trans {B : Nat} {A C D : World} (h : KpB B A C) (k : KpB B C D) : KpB B A D := ⟨Nat.le_trans h.1 k.1, fun i hi => (k.2 i hi).trans (h.2 i hi)⟩
theorem KpB.of_below {B : Nat} {W W' : World} (h : Below B W W') : KpB B W W' := ⟨h.size, h.block⟩
theorem KpB.cell {w W : World} (h : KpB w.heap.size w W) {a : Addr} {v : Value} (hc : w.cell? a = some v) : W.cell? a = some v := by
  have hl : a.block < w.heap.size := by
    rcases Nat.lt_or_ge a.block w.heap.size with h1 | h1
    · exact h1
    · unfold World.cell? at hc
      rw [Array.getElem?_eq_none h1] at hc
      simp at hc
  rw [World.cell?_of_block (h.2 _ hl)]; exact hc
set_option maxRecDepth 100000 in
theorem ep_deltas (A : Option Addr) (n c : Nat) (f t : Int) (w : World) : Calls Try.prog 40 #[.slice A n c, .int .i64 f, .int .i64 t] w fun e w' => e = .returned (.func (.func 65) #[] #[.pointer (some ⟨w.heap.size, 0, none⟩), .pointer (some ⟨w.heap.size + 1, 0, none⟩), .pointer (some ⟨w.heap.size + 1 + 1, 0, none⟩)]) ∧ w' = ((w.alloc (.cells #[.slice A n c] 41)).alloc (.cells #[.int .i64 f] 3)).alloc (.cells #[.int .i64 t] 3) := by
  go_enter Try.func40, Try.ntmps40
  go_wp2
  go_ret
  exact ⟨rfl, rfl⟩
set_option maxRecDepth 100000 in
set_option maxHeartbeats 4000000 in
theorem deltas_stops (k : Nat) (hk : 1 ≤ k) (w0 : World) (l : List Dl) (A : Option Addr) (n c : Nat) (hs : SlD w0 A n c l) (hf : ∀ d ∈ l, FewD d) (hz : SzD l) (F T : Nat) (hFT : F < T) (hTn : T ≤ n) (w : World) (hw : Below w0.heap.size w0 w) (B1 B2 B3 : Nat) (h1 : BxC w B1 #[.slice A n c] 41) (h2 : BxC w B2 #[.int .i64 F] 3) (h3 : BxC w B3 #[.int .i64 T] 3) :
    SeqStopsK Fence.wide k Try.prog 65 #[.pointer (some ⟨B1, 0, none⟩), .pointer (some ⟨B2, 0, none⟩), .pointer (some ⟨B3, 0, none⟩)] (DX.enc (w := w0)) (KpB w0.heap.size) (fun xs => xs.map (·.val.d) = (l.drop F).take (T - F)) (fun pre => pre.map (·.val.d) <+: (l.drop F).take (T - F)) (T - F) w := fun lp J Jx W hW hJ hJx hY h0 => by
  obtain ⟨b, o, rfl⟩ : ∃ b o, A = some ⟨b, o, none⟩ := by
    obtain ⟨e, he⟩ : ∃ e, l[F]? = some e := ⟨_, List.getElem?_eq_getElem (by rw [hs.1]; omega)⟩
    obtain ⟨b, o, h, _⟩ := hs.get he
    exact ⟨b, o, h⟩
  have HS := Lib.hid hs
  have HLEN := Lib.hid hs.1
  have hcap := hs.2.1
  have hcap2 := hs.2.2.1
  have HF := Lib.hid hf
  have HZ := Lib.hid hz
  have HW0 := Lib.hid (show KpB w0.heap.size w0 W from (KpB.of_below hw).trans (KpB.of_below (hW.mono hw.size)))
  have x1 : W.cell? ⟨B1, 0, none⟩ = some (.slice (some ⟨b, o, none⟩) n c) := (h1.next hW).cell 0
  have x2 : W.cell? ⟨B2, 0, none⟩ = some (.int .i64 F) := (h2.next hW).cell 0
  have x3 : W.cell? ⟨B3, 0, none⟩ = some (.int .i64 T) := (h3.next hW).cell 0
  have HY := Lib.hid hY
  have HJ := Lib.hid hJ
  have HJ0 := Lib.hid h0
  clear hY hJ hJx h0 hW hw h1 h2 h3 hs hf hz
  refine callsIn_of_wp Try.func65 rfl trivial ?_ rfl
  simp only [Try.ntmps65, List.size_toArray, List.length_cons, List.length_nil, Nat.reduceAdd, Nat.reduceSub, Array.replicate_succ, Array.replicate_zero, List.push_toArray, List.append_toArray, List.nil_append, List.cons_append]
  gi_wp2
  obtain ⟨N, hN⟩ : ∃ N, T - F = N := ⟨_, rfl⟩
  obtain ⟨c', hc'⟩ : ∃ c', c - F = c' := ⟨_, rfl⟩
  rw [hN] at HY ⊢
  rw [hc']
  have HN := Lib.hid hN
  have hNc : N ≤ c' := by omega
  have hcb : c' ≤ 9223372036854775807 := by omega
  clear x1 x2 x3 hN hc'
  gi_loopw [12] (fun i wr => ∃ (j : Nat) (pre : List (DX w0)), j ≤ N ∧ i = .int .i64 j ∧ pre.map (·.val.d) = (l.drop F).take j ∧ KpB w0.heap.size w0 wr ∧ J pre wr) (fun i _ => N - (intOf i).toNat)
  case atStart => exact ⟨0, [], by omega, rfl, by simp, HW0.out, HJ0.out⟩
  case round =>
    obtain ⟨j, pre, hj, rfl, hpre, hkp, hJr⟩ := hrel
    have HPRE := Lib.hid hpre
    have HKP := Lib.hid hkp
    have HJR := Lib.hid hJr
    clear hpre hkp hJr
    by_cases hlt : j < N
    · obtain ⟨d, he⟩ : ∃ d, l[F + j]? = some d := ⟨_, List.getElem?_eq_getElem (by rw [HLEN.out]; have := HN.out; omega)⟩
      obtain ⟨b2, o2, he2, A1, n1, c1, A2, n2, c2, hin⟩ := HS.out.get he
      obtain ⟨rfl, rfl⟩ : b = b2 ∧ o = o2 := by simpa using he2
      have HOKX := Lib.hid (show DVok w0 ⟨d, A1, n1, c1, A2, n2, c2⟩ from ⟨hin.2.1, hin.2.2, HF.out d (List.mem_of_getElem? he), HZ.out d (List.mem_of_getElem? he)⟩)
      have HPL := Lib.hid (show pre.length = j from by have := congrArg List.length HPRE.out; rw [List.length_map, List.length_take, List.length_drop, Nat.min_eq_left (by rw [HLEN.out]; have := HN.out; omega)] at this; exact this)
      have HPN := Lib.hid (show (pre ++ [(⟨⟨d, A1, n1, c1, A2, n2, c2⟩, HOKX.out⟩ : DX w0)]).map (·.val.d) = (l.drop F).take (j + 1) from by rw [List.map_append, HPRE.out, List.take_add_one, List.getElem?_drop, he]; rfl)
      have HPX := Lib.hid (show (pre ++ [(⟨⟨d, A1, n1, c1, A2, n2, c2⟩, HOKX.out⟩ : DX w0)]).map (·.val.d) <+: (l.drop F).take N from by rw [HPN.out]; exact List.take_prefix_take_left (by omega))
      have HIN := Lib.hid hin
      have x0 : wr.cell? ⟨b, o + F * 8 + j * 8, none⟩ = some (.int .i64 d.fr) := by
        have := HKP.out.cell (HIN.out.cell 0 rfl)
        rwa [show o + (F + j) * 8 + 0 = o + F * 8 + j * 8 from by omega] at this
      have x1 : wr.cell? ⟨b, o + F * 8 + j * 8 + 1, none⟩ = some (.int .i64 d.to) := by
        have := HKP.out.cell (HIN.out.cell 1 rfl)
        rwa [show o + (F + j) * 8 + 1 = o + F * 8 + j * 8 + 1 from by omega] at this
      have x2 : wr.cell? ⟨b, o + F * 8 + j * 8 + 2, none⟩ = some (.slice A1 n1 c1) := by
        have := HKP.out.cell (HIN.out.cell 2 rfl)
        rwa [show o + (F + j) * 8 + 2 = o + F * 8 + j * 8 + 2 from by omega] at this
      have x3 : wr.cell? ⟨b, o + F * 8 + j * 8 + 3, none⟩ = some (.slice A2 n2 c2) := by
        have := HKP.out.cell (HIN.out.cell 3 rfl)
        rwa [show o + (F + j) * 8 + 3 = o + F * 8 + j * 8 + 3 from by omega] at this
      have x4 : wr.cell? ⟨b, o + F * 8 + j * 8 + 4, none⟩ = some (.string d.be) := by
        have := HKP.out.cell (HIN.out.cell 4 rfl)
        rwa [show o + (F + j) * 8 + 4 = o + F * 8 + j * 8 + 4 from by omega] at this
      have x5 : wr.cell? ⟨b, o + F * 8 + j * 8 + 5, none⟩ = some (.string d.af) := by
        have := HKP.out.cell (HIN.out.cell 5 rfl)
        rwa [show o + (F + j) * 8 + 5 = o + F * 8 + j * 8 + 5 from by omega] at this
      have x6 : wr.cell? ⟨b, o + F * 8 + j * 8 + 6, none⟩ = some (.string d.sc) := by
        have := HKP.out.cell (HIN.out.cell 6 rfl)
        rwa [show o + (F + j) * 8 + 6 = o + F * 8 + j * 8 + 6 from by omega] at this
      have x7 : wr.cell? ⟨b, o + F * 8 + j * 8 + 7, none⟩ = some (.string d.sr) := by
        have := HKP.out.cell (HIN.out.cell 7 rfl)
        rwa [show o + (F + j) * 8 + 7 = o + F * 8 + j * 8 + 7 from by omega] at this
      have hbX : Below wr.heap.size wr (wr.alloc (.cells #[.int .i64 d.fr, .int .i64 d.to, .slice A1 n1 c1, .slice A2 n2 c2, .string d.be, .string d.af, .string d.sc, .string d.sr] 27)) := (Below.refl _ _).alloc (Nat.le_refl _) _
      have HJX := Lib.hid (abides_below HJ.out HJR.out hbX)
      have HKX := Lib.hid (HKP.out.trans (KpB.of_below (hbX.mono HKP.out.1)))
      clear he he2 hin hbX
      obtain ⟨fn, tmps, assign, body, hy, hR⟩ := HY.out pre ⟨⟨d, A1, n1, c1, A2, n2, c2⟩, HOKX.out⟩ _ HJX.out (by rw [HPL.out]; exact hlt)
      have HR := Lib.hid hR
      clear hR
      unfold DX.enc Dl.arr at hy
      dsimp only at hy
      gi_wp2
      refine HR.out.mono ?_
      rintro ev W' (⟨rfl, hJ', hk'⟩ | ⟨rfl, hJx'⟩)
      · have HJ' := Lib.hid hJ'
        have HK' := Lib.hid (HKX.out.trans hk')
        clear hJ' hk'
        gi_wp2
        go_roundw
        case rel => exact ⟨j + 1, pre ++ [⟨⟨d, A1, n1, c1, A2, n2, c2⟩, HOKX.out⟩], by omega, by go_num, HPN.out, HK'.out, HJ'.out⟩
        case measure => simp [intOf] <;> omega
      · have HX := Lib.hid hJx'
        clear hJx'
        gi_wp2
        refine bodyPost_ret (results_none rfl _ _ _) rfl ?_
        exact ⟨⟨_, rfl⟩, .inr ⟨pre ++ [⟨⟨d, A1, n1, c1, A2, n2, c2⟩, HOKX.out⟩], by rw [HN.out]; exact HPX.out, HX.out⟩⟩
    · obtain rfl : j = N := by omega
      have HPR := Lib.hid (show pre.map (·.val.d) = (l.drop F).take (T - F) from by rw [HN.out]; exact HPRE.out)
      clear hlt hj
      gi_wp2
      go_end0
      exact ⟨⟨_, rfl⟩, .inl ⟨pre, HPR.out, HJR.out⟩⟩
end Go.Proofs.Ytelhpdlegjgjjaa

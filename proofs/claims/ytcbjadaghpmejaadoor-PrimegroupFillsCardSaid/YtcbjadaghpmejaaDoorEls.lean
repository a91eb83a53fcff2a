/- The iterator primegroup.Elements: what comes, and in which order. -/
import Derived.Test.YtcbjadaghpmejaaDoorElm
set_option linter.unusedVariables false
set_option linter.unusedSimpArgs false
namespace Go.Proofs.YtcbjadaghpmejaaDoor
open Go.RowKit Go.Shelf
attribute [local go_sem] Oper.semAt_some

set_option maxRecDepth 100000 in
theorem pg_Elements (M O g : ByteArray) (w : World) : Calls Tryd.prog 18 #[gV M O, .string g] w fun e w' => e = .returned (.func (.func 36) #[] #[.pointer (some ⟨w.heap.size, 0, none⟩), .pointer (some ⟨w.heap.size + 1, 0, none⟩)]) ∧ w' = (w.alloc (.cells #[.string M, .string O] 24)).alloc (.cells #[.string g] 22) := by
  unfold gV
  go_enter Tryd.func18, Tryd.ntmps18
  go_wp2
  go_ret
  exact ⟨rfl, rfl⟩

/-- The blocks D and D + 1 lie as they lay. -/
def KpE (D : Nat) (W W' : World) : Prop := W'.heap[D]? = W.heap[D]? ∧ W'.heap[D + 1]? = W.heap[D + 1]?
theorem grown_of_below {W W' : World} (h : Below W.heap.size W W') : W.grownBy W' none := ⟨h.os, h.tape, h.output, h.size, fun k hk _ => h.block k hk⟩
theorem abides_below {β : Type} {B : Nat} {J : β → World → Prop} (hJ : AbidesFrom B J) {s : β} {W W' : World} (h : J s W) (hb : Below W.heap.size W W') : J s W' := hJ s W W' none h (grown_of_below hb) (fun r e => by cases e)

set_option maxRecDepth 100000 in
set_option maxHeartbeats 2000000 in
theorem elements_stops (k : Nat) (hk : 1 ≤ k) (M O g : ByteArray) (hM : M.size ≤ 8) (hO : O.size ≤ 1000) (hg : g.size ≤ 1000) (D : Nat) (w : World) (hD : Bx2 w D (.string M) (.string O) 24) (hE : BoxS w (D + 1) g) :
    SeqStopsK Fence.wide k Tryd.prog 36 #[.pointer (some ⟨D, 0, none⟩), .pointer (some ⟨D + 1, 0, none⟩)] (fun x : Nat => #[Value.string (nS x)]) (KpE D) (fun xs => xs = elemG M O g) (fun pre => pre <+: elemG M O g) (elemG M O g).length w := fun l J Jx W hW hJ hJx hY h0 => by
  have HH := Lib.hid (pg_Has M O g hM hO hg)
  have HD := Lib.hid (hD.kept hW hD.lt)
  have HE := Lib.hid (hE.kept hW hE.lt)
  have HJ := Lib.hid hJ
  have c0 := HD.out.c0
  have c1 := HD.out.c1
  have d0 := HE.out.cell
  cases hha : hasG M O g with
  | false =>
    rw [hha] at HH
    have HEQ := Lib.hid (elemG_out hha).symm
    have HJ0 := Lib.hid h0
    clear hha hY h0 hJ hJx hD hE hW
    unfold gV at HH
    refine callsIn_of_wp Tryd.func36 rfl trivial ?_ rfl
    simp only [Tryd.ntmps36, List.size_toArray, List.length_cons, List.length_nil, Nat.reduceAdd, Nat.reduceSub, Array.replicate_succ, Array.replicate_zero, List.push_toArray, List.append_toArray, List.nil_append, List.cons_append]
    gi_wp2
    refine ⟨trivial, callsIn_wide.2 ((HH.out _).mono ?_)⟩
    rintro e w1 ⟨rfl, hb1⟩
    have HJ1 := Lib.hid (abides_below HJ.out HJ0.out hb1)
    clear hb1
    gi_wp2
    refine bodyPost_ret (results_none rfl _ _ _) rfl ?_
    exact ⟨⟨_, rfl⟩, .inl ⟨[], HEQ.out, HJ1.out⟩⟩
  | true =>
    rw [hha] at HH
    have hm8 := num_small hM
    have hgm := has_num hha
    have hvM : nvalid M = true := (of_decide_eq_true hha : hasP M O g).1
    have hvg : nvalid g = true := (of_decide_eq_true hha : hasP M O g).2.2.1
    have hg0 : 0 < num g := (of_decide_eq_true hha : hasP M O g).2.2.2.2.1
    have HMU := Lib.hid (fun k => mod_Mul (num g ^ k % num M) (num g) (num M) (Nat.lt_trans (Nat.mod_lt _ (by omega)) hm8) (by omega) hm8 (by omega))
    have HMO := Lib.hid (fun k => pw_one (num g) k (num M))
    have HE2 := Lib.hid (mod_Exp (num g) 0 (num M) (by omega) (by decide) hm8 (by omega))
    rw [← nS_num hvg, ← nS_num hvM] at HMU HE2
    rw [nS_zero] at HE2
    rw [elemG_in hha] at hY ⊢
    rw [pwL_length] at hY
    have HY := Lib.hid hY
    have HJ0 := Lib.hid h0
    clear hha hvM hvg hg0 hgm hm8 hY h0 hJ hJx hD hE hW
    unfold gV at HH
    refine callsIn_of_wp Tryd.func36 rfl trivial ?_ rfl
    simp only [Tryd.ntmps36, List.size_toArray, List.length_cons, List.length_nil, Nat.reduceAdd, Nat.reduceSub, Array.replicate_succ, Array.replicate_zero, List.push_toArray, List.append_toArray, List.nil_append, List.cons_append]
    gi_wp2
    refine ⟨trivial, callsIn_wide.2 ((HH.out _).mono ?_)⟩
    rintro e w1 ⟨rfl, hb1⟩
    have HJ1 := Lib.hid (abides_below HJ.out HJ0.out hb1)
    have HD1 := Lib.hid (HD.out.next hb1)
    have HE1 := Lib.hid (HE.out.kept hb1 HE.out.lt)
    clear hb1 c0 c1 d0
    have c0 := HD1.out.c0
    have d0 := HE1.out.cell
    gi_wp2
    refine ⟨trivial, callsIn_wide.2 ((HE2.out _).mono ?_)⟩
    rintro e w2 ⟨rfl, hb2⟩
    have HJ2 := Lib.hid (abides_below HJ.out HJ1.out hb2)
    have HD2 := Lib.hid (HD1.out.next hb2)
    have HE2' := Lib.hid (HE1.out.kept hb2 HE1.out.lt)
    clear hb2 c0 d0
    gi_wp2
    gi_loopw [4, 6] (fun y i wr => ∃ K : Nat, K ≤ 65536 ∧ i = .int .i64 K ∧ y = .string (nS (num g ^ K % num M)) ∧ (∀ j, 0 < j → j < K → ¬ (num g ^ j % num M = 1)) ∧ Bx2 wr D (.string M) (.string O) 24 ∧ BoxS wr (D + 1) g ∧ J (pwL (num M) (num g) K) wr) (fun _ i _ => 65536 - (intOf i).toNat)
    case atStart => exact ⟨0, Nat.zero_le _, rfl, by first | rfl | simp, fun j h1 h2 => by omega, HD2.out, HE2'.out, HJ2.out⟩
    case round =>
      obtain ⟨K, hK, rfl, rfl, hno, hDr, hEr, hJr⟩ := hrel
      have HNO := Lib.hid hno
      have HDR := Lib.hid hDr
      have HER := Lib.hid hEr
      have HJR := Lib.hid hJr
      clear hno hDr hEr hJr
      have HLE := Lib.hid (show K ≤ elemN (num M) (num g) from by
        rcases Nat.eq_zero_or_pos K with e | e
        · rw [e]; exact Nat.zero_le _
        · have e2 := elemN_gt (m := num M) (g := num g) (k := K - 1) (by omega) (fun j a b => HNO.out j a (by omega))
          omega)
      by_cases hlt : K < 65536
      · have hk6 : ((K : Int) < 65536) = True := eq_true (by omega)
        by_cases h1 : 0 < K ∧ num g ^ K % num M = 1
        · have HEQ := Lib.hid (show K = elemN (num M) (num g) from Nat.le_antisymm HLE.out (elemN_hit h1.1 h1.2))
          have hy : ((nS (num g ^ K % num M)).toList == [1]) = true := by rw [nS_is1]; exact decide_eq_true h1.2
          have hk0 : (0 : Int) < (K : Int) := by have := h1.1; omega
          clear h1 hlt hK
          gi_wp2
          refine ⟨fun _ h => (by cases h), ?_⟩
          gi_wp2
          refine bodyPost_ret (results_none rfl _ _ _) rfl ?_
          exact ⟨⟨_, rfl⟩, .inl ⟨pwL (num M) (num g) _, by rw [← HEQ.out], HJR.out⟩⟩
        · have HGT := Lib.hid (show K < elemN (num M) (num g) from by
            refine elemN_gt hlt fun j a b => ?_
            by_cases e : j = K
            · subst e; exact fun h => h1 ⟨a, h⟩
            · exact HNO.out j a (by omega))
          have HMM := Lib.hid (HMU.out K)
          rw [HMO.out] at HMM
          have HNN := Lib.hid (show ∀ j, 0 < j → j < K + 1 → ¬ (num g ^ j % num M = 1) from fun j a b => by
            by_cases e : j = K
            · subst e; exact fun h => h1 ⟨a, h⟩
            · exact HNO.out j a (by omega))
          obtain ⟨Y, hYe⟩ : ∃ Y, num g ^ K % num M = Y := ⟨_, rfl⟩
          obtain ⟨fn, tmps, assign, body, hy, hR⟩ := HY.out (pwL (num M) (num g) K) Y wr HJR.out (by rw [pwL_length]; exact HGT.out)
          rw [show pwL (num M) (num g) K ++ [Y] = pwL (num M) (num g) (K + 1) from by rw [pwL_succ, hYe]] at hR
          rw [hYe] at HMM ⊢
          have HR := Lib.hid hR
          clear hR
          by_cases hz : K = 0
          · subst hz
            clear h1 hlt hK hk6 hYe
            gi_wp2
            refine HR.out.mono ?_
            rintro ev W' (⟨rfl, hJ', hk'⟩ | ⟨rfl, hJx'⟩)
            · have HJ3 := Lib.hid hJ'
              have HD3 := Lib.hid (show Bx2 W' D (.string M) (.string O) 24 from hk'.1.trans HDR.out)
              have HE3 := Lib.hid (show BoxS W' (D + 1) g from hk'.2.trans HER.out)
              clear hJ' hk'
              have c0 := HD3.out.c0
              have d0 := HE3.out.cell
              gi_wp2
              refine ⟨trivial, callsIn_wide.2 ((HMM.out _).mono ?_)⟩
              rintro ev w4 ⟨rfl, hb4⟩
              have HJ4 := Lib.hid (abides_below HJ.out HJ3.out hb4)
              have HD4 := Lib.hid (HD3.out.next hb4)
              have HE4 := Lib.hid (HE3.out.kept hb4 HE3.out.lt)
              clear hb4 c0 d0
              gi_wp2
              go_roundw
              case rel => exact ⟨0 + 1, by have := HGT.out; have := elemN_max (num M) (num g); omega, by go_num, by first | rfl | simp, HNN.out, HD4.out, HE4.out, HJ4.out⟩
              case measure =>
                try have hk7 := of_eq_true hk6
                simp [intOf] <;> omega
            · gi_wp2
              refine bodyPost_ret (results_none rfl _ _ _) rfl ?_
              exact ⟨⟨_, rfl⟩, .inr ⟨_, pwL_prefix HGT.out, hJx'⟩⟩
          · have hk0 : (0 : Int) < (K : Int) := by omega
            have hy1 : ((nS Y).toList == [1]) = false := by rw [nS_is1]; exact decide_eq_false (fun h => h1 ⟨by omega, by rw [hYe]; exact h⟩)
            clear h1 hlt hz hYe
            gi_wp2
            refine HR.out.mono ?_
            rintro ev W' (⟨rfl, hJ', hk'⟩ | ⟨rfl, hJx'⟩)
            · have HJ3 := Lib.hid hJ'
              have HD3 := Lib.hid (show Bx2 W' D (.string M) (.string O) 24 from hk'.1.trans HDR.out)
              have HE3 := Lib.hid (show BoxS W' (D + 1) g from hk'.2.trans HER.out)
              clear hJ' hk'
              have c0 := HD3.out.c0
              have d0 := HE3.out.cell
              gi_wp2
              refine ⟨trivial, callsIn_wide.2 ((HMM.out _).mono ?_)⟩
              rintro ev w4 ⟨rfl, hb4⟩
              have HJ4 := Lib.hid (abides_below HJ.out HJ3.out hb4)
              have HD4 := Lib.hid (HD3.out.next hb4)
              have HE4 := Lib.hid (HE3.out.kept hb4 HE3.out.lt)
              clear hb4 c0 d0
              gi_wp2
              go_roundw
              case rel => exact ⟨K + 1, by have := HGT.out; have := elemN_max (num M) (num g); omega, by go_num, by first | rfl | simp, HNN.out, HD4.out, HE4.out, HJ4.out⟩
              case measure =>
                try have hk7 := of_eq_true hk6
                simp [intOf] <;> omega
            · gi_wp2
              refine bodyPost_ret (results_none rfl _ _ _) rfl ?_
              exact ⟨⟨_, rfl⟩, .inr ⟨_, pwL_prefix HGT.out, hJx'⟩⟩
      · obtain rfl : K = 65536 := by omega
        have HEQ := Lib.hid (show 65536 = elemN (num M) (num g) from Nat.le_antisymm HLE.out (elemN_max _ _))
        clear hlt hK
        gi_wp2
        go_end0
        exact ⟨⟨_, rfl⟩, .inl ⟨pwL (num M) (num g) _, by rw [← HEQ.out], HJR.out⟩⟩
end Go.Proofs.YtcbjadaghpmejaaDoor

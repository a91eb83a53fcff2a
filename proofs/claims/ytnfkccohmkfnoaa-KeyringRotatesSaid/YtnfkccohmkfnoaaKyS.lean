/- The iterator keyring.numbers: what comes. -/
import Derived.Test.YtnfkccohmkfnoaaKyQ
import Derived.Test.YtnfkccohmkfnoaaKyR
import Derived.RangeFuncNested
import Derived.RangeFuncBound
import Derived.RangeFuncCalls
import Derived.RangeFuncLeaves
import Derived.RangeFuncFrom
import Derived.Shelf.Abstract
import Derived.Shelf.RegionOpen
import Derived.WalkKit
import Derived.OwnWalkIn
import Derived.TacticsInMore
import Derived.LoopNIn
import Derived.LoopIn
set_option linter.unusedVariables false
set_option linter.unusedSimpArgs false
namespace Go.Proofs.Ytnfkccohmkfnoaa
open Go.RowKit Go.Shelf
attribute [local go_sem] Oper.semAt_some

/-- The numbers of a version. -/
def Ver.ten (v : Ver) : List ByteArray := [v.km, v.ko, v.kz, v.ks, v.ku, v.kh, v.sm, v.so, v.sg, v.sy]
def Ver.nums (v : Ver) : List ByteArray := v.ten ++ v.kr
/-- A string's length fits. -/
abbrev SzS := { s : ByteArray // s.size ≤ 9223372036854775807 }
/-- Cells stay. -/
def KpC (W W' : World) : Prop := ∀ (b : Nat) (cs : Array Value) (T : TypeId) (fr : Nat × Nat), W.heap[b]? = some (.cells cs T fr) → W'.heap[b]? = some (.cells cs T fr)
theorem KpC.cell {W W' : World} (h : KpC W W') {b k : Nat} {cs : Array Value} {T : TypeId} {fr : Nat × Nat} (hb : W.heap[b]? = some (.cells cs T fr)) : W'.cell? ⟨b, k, none⟩ = cs[k]? := by
  rw [Lib.cell_of_heap (h b cs T fr hb)]
theorem SlN.kpc {W W' : World} (h : KpC W W') {A : Option Addr} {n c : Nat} {l : List ByteArray} (hs : SlN W A n c l) : SlN W' A n c l := by
  obtain ⟨h1, h2, h3, b, o, h4, h5⟩ := hs
  refine ⟨h1, h2, h3, b, o, h4, fun k s hk => ?_⟩
  have h6 := h5 k s hk
  unfold World.cell? at h6 ⊢
  simp only at h6 ⊢
  cases hb : W.heap[b]? with
  | none => rw [hb] at h6; simp at h6
  | some ob =>
    cases ob with
    | cells cs T fr => rw [h b cs T fr hb]; rw [hb] at h6; exact h6
    | _ => rw [hb] at h6; simp at h6
/-- The cells of a version's signing key. -/
def Ver.sgn (v : Ver) : Array Value := #[.string v.sm, .string v.so, .string v.sg, .string v.sy]
theorem Ver.key_one (v : Ver) (A : Option Addr) (n c : Nat) : (v.key (.slice A n c)).all (·.oneCell') = true := by unfold Ver.key; simp [Value.oneCell']
theorem Ver.sgn_one (v : Ver) : v.sgn.all (·.oneCell') = true := by unfold Ver.sgn; simp [Value.oneCell']
theorem alloc_key (W : World) : (zeroValue 32).run Try.prog W = .ok (.agg (ver0.key (.slice none 0 0))) W := by kernel_rfl
theorem BxC.alloc {W : World} {B : Nat} {cs : Array Value} {T : TypeId} (h : BxC W B cs T) (o : Obj) : BxC (W.alloc o) B cs T := h.kept ((Below.refl _ _).alloc (Nat.le_refl _) o) h.lt
theorem BxC.row {W : World} {B C : Nat} {cs ds : Array Value} {T : TypeId} (h : BxC W B cs T) (hne : B ≠ C) : BxC (W.setRow C ds) B cs T := (setRow_other _ _ _ _ hne).trans h
theorem BxC.new1 (W : World) (cs : Array Value) (T : TypeId) (o : Obj) : BxC ((W.alloc o).alloc (.cells cs T)) (W.heap.size + 1) cs T := by
  have := BxC.new (W.alloc o) cs T
  rwa [World.size_alloc] at this
theorem grown_of_below {W W' : World} (h : Below W.heap.size W W') : W.grownBy W' none := ⟨h.os, h.tape, h.output, h.size, fun k hk _ => h.block k hk⟩
theorem abides_below {β : Type} {B : Nat} {J : β → World → Prop} (hJ : AbidesFrom B J) {s : β} {W W' : World} (h : J s W) (hb : Below W.heap.size W W') : J s W' := hJ s W W' none h (grown_of_below hb) (fun r e => by cases e)
theorem ten_index (v : Ver) (W : World) (j : Nat) (s : ByteArray) (h : v.ten[j]? = some s) : (Instr.index 89 (.agg #[.string v.km, .string v.ko, .string v.kz, .string v.ks, .string v.ku, .string v.kh, .string v.sm, .string v.so, .string v.sg, .string v.sy]) (.int .i64 (j : Int))).run Try.prog W = .ok (.string s) W := by
  have hl : j < 10 := (List.getElem?_eq_some_iff.1 h).1
  rcases (show j = 0 ∨ j = 1 ∨ j = 2 ∨ j = 3 ∨ j = 4 ∨ j = 5 ∨ j = 6 ∨ j = 7 ∨ j = 8 ∨ j = 9 from by omega) with rfl | rfl | rfl | rfl | rfl | rfl | rfl | rfl | rfl | rfl <;>
  · cases h
    show _ = _
    kernel_rfl
theorem KpC.refl (W : World) : KpC W W := fun _ _ _ _ h => h
theorem KpC.trans {A B C : World} (h : KpC A B) (k : KpC B C) : KpC A C := fun b cs T fr hb => k b cs T fr (h b cs T fr hb)
set_option maxRecDepth 100000 in
set_option maxHeartbeats 4000000 in
theorem numbers_stops (k : Nat) (hk : 1 ≤ k) (v : Ver) (A : Option Addr) (n c : Nat) (hz : SzL v.nums) (D : Nat) (w : World) (hD : BxC w D (v.arr (.slice A n c)) 38) (hS : SlN w A n c v.kr) (hn : n ≤ 1000000) :
    SeqStopsK Fence.wide k Try.prog 47 #[.pointer (some ⟨D, 0, none⟩)] (fun x : SzS => #[Value.string x.val]) KpC (fun xs => xs.map (·.val) = v.nums) (fun pre => pre.map (·.val) <+: v.nums) v.nums.length w := fun l J Jx W hW hJ hJx hY h0 => by
  have HD := Lib.hid (hD.kept hW hD.lt)
  have HS := Lib.hid (hS.kept hW (Nat.le_refl _))
  have x2 : W.drew.cell? ⟨D, 2, none⟩ = some (.string v.kn) := HD.out.cell 2
  have x3 : W.drew.cell? ⟨D, 3, none⟩ = some (.string v.km) := HD.out.cell 3
  have x4 : W.drew.cell? ⟨D, 4, none⟩ = some (.string v.ko) := HD.out.cell 4
  have x5 : W.drew.cell? ⟨D, 5, none⟩ = some (.string v.kz) := HD.out.cell 5
  have x6 : W.drew.cell? ⟨D, 6, none⟩ = some (.string v.ks) := HD.out.cell 6
  have x7 : W.drew.cell? ⟨D, 7, none⟩ = some (.slice A n c) := HD.out.cell 7
  have x8 : W.drew.cell? ⟨D, 8, none⟩ = some (.string v.ku) := HD.out.cell 8
  have x9 : W.drew.cell? ⟨D, 9, none⟩ = some (.string v.kh) := HD.out.cell 9
  have x10 : W.drew.cell? ⟨D, 10, none⟩ = some (.string v.sm) := HD.out.cell 10
  have x11 : W.drew.cell? ⟨D, 11, none⟩ = some (.string v.so) := HD.out.cell 11
  have x12 : W.drew.cell? ⟨D, 12, none⟩ = some (.string v.sg) := HD.out.cell 12
  have x13 : W.drew.cell? ⟨D, 13, none⟩ = some (.string v.sy) := HD.out.cell 13
  have HY := Lib.hid hY
  have HJ := Lib.hid hJ
  have HJ0 := Lib.hid h0
  have hDl := HD.out.lt
  clear hY hJ hJx h0 hW hD hS
  refine callsIn_of_wp Try.func47 rfl trivial ?_ rfl
  simp only [Try.ntmps47, List.size_toArray, List.length_cons, List.length_nil, Nat.reduceAdd, Nat.reduceSub, Array.replicate_succ, Array.replicate_zero, List.push_toArray, List.append_toArray, List.nil_append, List.cons_append]
  gi_wp2
  rename_i K0 hK0
  have rest : ∀ (P Q : Nat) (W7 : World), BxC W7 P (v.key (.slice A n c)) 32 → BxC W7 Q v.sgn 34 → Below W.drew.heap.size W.drew W7 → K0 { tmps := #[.func (.yield l) #[] #[], .pointer (some ⟨D, 0, none⟩), undef, .pointer (some ⟨P, 0, none⟩), .pointer (some ⟨Q, 0, none⟩), undef, undef, undef, undef, .pointer (some ⟨D, 2, none⟩), .agg #[.string v.kn, .string v.km, .string v.ko, .string v.kz, .string v.ks, .slice A n c, .string v.ku, .string v.kh], .pointer (some ⟨D, 10, none⟩), .agg #[.string v.sm, .string v.so, .string v.sg, .string v.sy], undef, undef, undef, undef, undef, undef, undef, undef, undef, undef, undef, undef, undef, undef, undef, undef, undef, undef, undef, undef, undef, undef, undef, undef, undef, undef, undef, undef, undef, undef, undef, undef, undef, undef, undef, undef, undef, undef, undef, undef, undef, undef, undef, undef, undef], defers := [] } W7 := by
    intro P Q W7 hP hQ hL
    have HP := Lib.hid hP
    have HQ := Lib.hid hQ
    have hbW : Below W.heap.size W W7 := ((Below.refl _ _).drew).trans hL
    have HJ7 := Lib.hid (abides_below HJ.out HJ0.out hbW)
    have HS7 := Lib.hid (HS.out.kept hbW (Nat.le_refl _))
    have p1 : W7.cell? ⟨P, 1, none⟩ = some (.string v.km) := hP.cell 1
    have p2 : W7.cell? ⟨P, 2, none⟩ = some (.string v.ko) := hP.cell 2
    have p3 : W7.cell? ⟨P, 3, none⟩ = some (.string v.kz) := hP.cell 3
    have p4 : W7.cell? ⟨P, 4, none⟩ = some (.string v.ks) := hP.cell 4
    have p6 : W7.cell? ⟨P, 6, none⟩ = some (.string v.ku) := hP.cell 6
    have p7 : W7.cell? ⟨P, 7, none⟩ = some (.string v.kh) := hP.cell 7
    have q0 : W7.cell? ⟨Q, 0, none⟩ = some (.string v.sm) := hQ.cell 0
    have q1 : W7.cell? ⟨Q, 1, none⟩ = some (.string v.so) := hQ.cell 1
    have q2 : W7.cell? ⟨Q, 2, none⟩ = some (.string v.sg) := hQ.cell 2
    have q3 : W7.cell? ⟨Q, 3, none⟩ = some (.string v.sy) := hQ.cell 3
    have HNL := Lib.hid (show v.nums.length = 10 + n from by unfold Ver.nums; rw [List.length_append, HS.out.1]; rfl)
    have HZ := Lib.hid hz
    clear hP hQ hbW hL x2 x3 x4 x5 x6 x7 x8 x9 x10 x11 x12 x13 hz
    refine hK0 _ _ ?_
    gi_wp2
    clear p1 p2 p3 p4 p6 p7 q0 q1 q2 q3
    gi_loopw [38] (fun i wr => ∃ (j : Nat) (pre : List SzS), j ≤ 10 ∧ i = .int .i64 j ∧ pre.map (·.val) = v.ten.take j ∧ KpC W7 wr ∧ J pre wr) (fun i _ => 10 - (intOf i).toNat)
    case atStart => exact ⟨0, [], by omega, rfl, rfl, KpC.refl _, HJ7.out⟩
    case round =>
      obtain ⟨j, pre, hj, rfl, hpre, hkp, hJr⟩ := hrel
      have HPRE := Lib.hid hpre
      have HKP := Lib.hid hkp
      have HJR := Lib.hid hJr
      clear hpre hkp hJr
      by_cases hlt : j < 10
      · obtain ⟨s, he⟩ : ∃ s, v.ten[j]? = some s := ⟨_, List.getElem?_eq_getElem (show j < 10 from hlt)⟩
        have hix := fun W => ten_index v W j s he
        have hmem : s ∈ v.nums := List.mem_append.2 (.inl (List.mem_of_getElem? he))
        have HSS := Lib.hid (HZ.out s hmem)
        have HPL := Lib.hid (show pre.length = j from by have := congrArg List.length HPRE.out; rw [List.length_map, List.length_take, Nat.min_eq_left (show j ≤ v.ten.length from hj)] at this; exact this)
        have HLT := Lib.hid (show j < v.nums.length from by rw [HNL.out]; omega)
        have HPN := Lib.hid (show (pre ++ [(⟨s, HSS.out⟩ : SzS)]).map (·.val) = v.ten.take (j + 1) from by rw [List.map_append, HPRE.out, List.take_add_one, he]; rfl)
        have HPX := Lib.hid (show (pre ++ [(⟨s, HSS.out⟩ : SzS)]).map (·.val) <+: v.nums from by rw [HPN.out]; exact (List.take_prefix _ _).trans (List.prefix_append _ _))
        clear he hmem
        obtain ⟨fn, tmps, assign, body, hy, hR⟩ := HY.out pre ⟨s, HSS.out⟩ wr HJR.out (by rw [HPL.out]; exact HLT.out)
        have HR := Lib.hid hR
        clear hR
        gi_wp2
        refine HR.out.mono ?_
        rintro ev W' (⟨rfl, hJ', hk'⟩ | ⟨rfl, hJx'⟩)
        · have HJ' := Lib.hid hJ'
          have HK' := Lib.hid (HKP.out.trans hk')
          clear hJ' hk'
          gi_wp2
          go_roundw
          case rel => exact ⟨j + 1, pre ++ [⟨s, HSS.out⟩], by omega, by go_num, HPN.out, HK'.out, HJ'.out⟩
          case measure => simp [intOf] <;> omega
        · have HX := Lib.hid hJx'
          clear hJx'
          gi_wp2
          refine bodyPost_ret (results_none rfl _ _ _) rfl ?_
          exact ⟨⟨_, rfl⟩, .inr ⟨pre ++ [⟨s, HSS.out⟩], HPX.out, HX.out⟩⟩
      · obtain rfl : j = 10 := by omega
        have z5 : wr.cell? ⟨P, 5, none⟩ = some (.slice A n c) := KpC.cell HKP.out HP.out
        have HPR := Lib.hid (show pre.map (·.val) = v.ten from HPRE.out)
        have hlt0 : hlt = hlt := rfl
        have hJr := HJR.out
        have hkp := HKP.out
        clear hlt0 hlt hj
        rw [show ((10 : Nat) : Int) = 10 from rfl]
        gi_wp2
        clear z5
        gi_loopw [49] (fun i wr => ∃ (j : Nat) (pre : List SzS), j ≤ n ∧ i = .int .i64 j ∧ pre.map (·.val) = v.ten ++ v.kr.take j ∧ KpC W7 wr ∧ J pre wr) (fun i _ => n - (intOf i).toNat)
        case atStart => exact ⟨0, pre, Nat.zero_le _, rfl, by rw [HPR.out]; simp, hkp, hJr⟩
        case round =>
          clear hJr hkp HPR HPRE HKP HJR
          obtain ⟨j, pre, hj, rfl, hpre, hkp, hJr⟩ := hrel
          have HPRE := Lib.hid hpre
          have HKP := Lib.hid hkp
          have HJR := Lib.hid hJr
          clear hpre hkp hJr
          by_cases hlt : j < n
          · obtain ⟨s, he⟩ : ∃ s, v.kr[j]? = some s := ⟨_, List.getElem?_eq_getElem (by rw [HS7.out.1]; exact hlt)⟩
            obtain ⟨b, o, rfl, e1⟩ := (SlN.kpc HKP.out HS7.out).cell he
            have hmem : s ∈ v.nums := List.mem_append.2 (.inr (List.mem_of_getElem? he))
            have HSS := Lib.hid (HZ.out s hmem)
            have HPL := Lib.hid (show pre.length = 10 + j from by have := congrArg List.length HPRE.out; rw [List.length_map, List.length_append, List.length_take, Nat.min_eq_left (by rw [HS7.out.1]; exact hj)] at this; exact this)
            have HLT := Lib.hid (show 10 + j < v.nums.length from by rw [HNL.out]; omega)
            have HPN := Lib.hid (show (pre ++ [(⟨s, HSS.out⟩ : SzS)]).map (·.val) = v.ten ++ v.kr.take (j + 1) from by rw [List.map_append, HPRE.out, List.take_add_one, he, List.append_assoc]; rfl)
            have HPX := Lib.hid (show (pre ++ [(⟨s, HSS.out⟩ : SzS)]).map (·.val) <+: v.nums from by
              rw [HPN.out]
              exact (List.prefix_append_right_inj _).2 (List.take_prefix _ _))
            clear he hmem
            obtain ⟨fn, tmps, assign, body, hy, hR⟩ := HY.out pre ⟨s, HSS.out⟩ wr HJR.out (by rw [HPL.out]; exact HLT.out)
            have HR := Lib.hid hR
            clear hR
            gi_wp2
            refine HR.out.mono ?_
            rintro ev W' (⟨rfl, hJ', hk'⟩ | ⟨rfl, hJx'⟩)
            · have HJ' := Lib.hid hJ'
              have HK' := Lib.hid (HKP.out.trans hk')
              clear hJ' hk'
              gi_wp2
              go_roundw
              case rel => exact ⟨j + 1, pre ++ [⟨s, HSS.out⟩], by omega, by go_num, HPN.out, HK'.out, HJ'.out⟩
              case measure => simp [intOf] <;> omega
            · have HX := Lib.hid hJx'
              clear hJx'
              gi_wp2
              refine bodyPost_ret (results_none rfl _ _ _) rfl ?_
              exact ⟨⟨_, rfl⟩, .inr ⟨pre ++ [⟨s, HSS.out⟩], HPX.out, HX.out⟩⟩
          · obtain rfl : j = n := by omega
            have HPR := Lib.hid (show pre.map (·.val) = v.nums from by
              have := HPRE.out
              rw [← HS7.out.1, List.take_length] at this
              exact this)
            have hJr := HJR.out
            clear hlt hj
            gi_wp2
            go_end0
            exact ⟨⟨_, rfl⟩, .inl ⟨pre, HPR.out, hJr⟩⟩
  refine wpIn_wide.2 ?_
  have HP6 := trivial
  have HQ6 := trivial
  refine wp_region_K 8 (Below (W.drew).heap.size (W.drew)) (by kernel_rfl) ?_
  intro hD
  refine wpAnyK_pure (i := 0) (v := ?v0_0b1) (fuel := 7) rfl (by kernel_rfl) (fun _ _ _ h => h) hD (Below.refl _ _) (.inl ⟨by kernel_rfl, ?y0_0b1⟩) ?n0_0b1
  case y0_0b1 => intro w' _; go_simp; with_reducible rfl
  clear hD; intro hD
  simp only [Act.put, List.setIfInBounds_toArray, List.set_cons_zero, List.set_cons_succ]
  refine wpAnyK_takeS (i := 1) (v := ?v0_1b1) (fuel := 6) rfl (by kernel_rfl) (by kernel_rfl) (fun _ _ _ h => h) hD (Below.refl _ _) (.inl ⟨by kernel_rfl, ?y0_1b1⟩) ?n0_1b1
  case y0_1b1 => intro w' hS'; have e0 := cell_kept hS' (Nat.le_refl _) x2; have e1 := cell_kept hS' (Nat.le_refl _) x3; have e2 := cell_kept hS' (Nat.le_refl _) x4; have e3 := cell_kept hS' (Nat.le_refl _) x5; have e4 := cell_kept hS' (Nat.le_refl _) x6; have e5 := cell_kept hS' (Nat.le_refl _) x7; have e6 := cell_kept hS' (Nat.le_refl _) x8; have e7 := cell_kept hS' (Nat.le_refl _) x9; have e8 := cell_kept hS' (Nat.le_refl _) x10; have e9 := cell_kept hS' (Nat.le_refl _) x11; have e10 := cell_kept hS' (Nat.le_refl _) x12; have e11 := cell_kept hS' (Nat.le_refl _) x13; go_simp; with_reducible rfl
  clear hD; intro hD
  simp only [Act.put, List.setIfInBounds_toArray, List.set_cons_zero, List.set_cons_succ]
  refine wpAnyK_pure (i := 2) (v := ?v0_2b1) (fuel := 5) rfl (by kernel_rfl) (fun _ _ _ h => h) hD (Below.refl _ _) (.inl ⟨by kernel_rfl, ?y0_2b1⟩) ?n0_2b1
  case y0_2b1 => intro w' _; go_simp; with_reducible rfl
  clear hD; intro hD
  simp only [Act.put, List.setIfInBounds_toArray, List.set_cons_zero, List.set_cons_succ]
  refine wpAnyK_takeS (i := 3) (v := ?v0_3b1) (fuel := 4) rfl (by kernel_rfl) (by kernel_rfl) (fun _ _ _ h => h) hD (Below.refl _ _) (.inl ⟨by kernel_rfl, ?y0_3b1⟩) ?n0_3b1
  case y0_3b1 => intro w' hS'; have e0 := cell_kept hS' (Nat.le_refl _) x2; have e1 := cell_kept hS' (Nat.le_refl _) x3; have e2 := cell_kept hS' (Nat.le_refl _) x4; have e3 := cell_kept hS' (Nat.le_refl _) x5; have e4 := cell_kept hS' (Nat.le_refl _) x6; have e5 := cell_kept hS' (Nat.le_refl _) x7; have e6 := cell_kept hS' (Nat.le_refl _) x8; have e7 := cell_kept hS' (Nat.le_refl _) x9; have e8 := cell_kept hS' (Nat.le_refl _) x10; have e9 := cell_kept hS' (Nat.le_refl _) x11; have e10 := cell_kept hS' (Nat.le_refl _) x12; have e11 := cell_kept hS' (Nat.le_refl _) x13; go_simp; with_reducible rfl
  clear hD; intro hD
  simp only [Act.put, List.setIfInBounds_toArray, List.set_cons_zero, List.set_cons_succ]
  refine wpAnyK_two (i := 4) (i' := 5) (fuel := 3) (by kernel_rfl) rfl rfl hD ?_ ?_ 
  · unfold StepK
    clear hD; intro K4 hK4
    go_wp2
    refine hK4 _ _ (by exact (Below.refl _ _).alloc (Nat.le_refl _) _) ?_; clear hK4; intro hS_0_4 hD
    refine wpAnyK_one (i := 5) (fuel := 2) (by kernel_rfl) rfl hD ?_
    clear hD; intro K5 hK5
    go_wp2
    refine hK5 _ _ (by exact Below.alloc hS_0_4 (Below.size hS_0_4) _) ?_; clear hK5; intro hS_0_5_4 hD
    refine wpAnyK_one (i := 6) (fuel := 1) (by kernel_rfl) rfl hD ?_
    clear hD; intro K6 hK6
    first
    | (refine wpList_store_rowTo rfl 32 _ _ rfl rfl W.heap.size (v.key (.slice A n c)) rfl rfl 32 (ver0.key (.slice none 0 0)) (BxC.new W.drew (ver0.key (.slice none 0 0)) 32) (by kernel_rfl) rfl (v.key_one A n c) ?_
       have HP6 := Lib.hid (show BxC ((W.drew.alloc (.cells (ver0.key (.slice none 0 0)) 32)).setRow W.heap.size (v.key (.slice A n c))) W.heap.size (v.key (.slice A n c)) 32 from setRow_heap _ _ _ _ _ _ (BxC.new W.drew (ver0.key (.slice none 0 0)) 32))
       have HQ6 := Lib.hid (True.intro)
       have HL6 := Lib.hid (show Below W.drew.heap.size W.drew ((W.drew.alloc (.cells (ver0.key (.slice none 0 0)) 32)).setRow W.heap.size (v.key (.slice A n c))) from below_setRow ((Below.refl _ _).alloc (Nat.le_refl _) _) (Nat.le_refl _) _)
       have hne6 := True.intro
       show wpList _ _ _ _ _ ((W.drew.alloc (.cells (ver0.key (.slice none 0 0)) 32)).setRow W.heap.size (v.key (.slice A n c)))
       obtain ⟨w6, hw6⟩ : ∃ w6, (W.drew.alloc (.cells (ver0.key (.slice none 0 0)) 32)).setRow W.heap.size (v.key (.slice A n c)) = w6 := ⟨_, rfl⟩)
    | (refine wpList_store_rowTo rfl 32 _ _ rfl rfl (W.heap.size + 1) (v.key (.slice A n c)) rfl rfl 32 (ver0.key (.slice none 0 0)) (BxC.new1 W.drew (ver0.key (.slice none 0 0)) 32 (.cells (ver0.sgn) 34)) (by kernel_rfl) rfl (v.key_one A n c) ?_
       have HP6 := Lib.hid (show BxC (((W.drew.alloc (.cells (ver0.sgn) 34)).alloc (.cells (ver0.key (.slice none 0 0)) 32)).setRow (W.heap.size + 1) (v.key (.slice A n c))) (W.heap.size + 1) (v.key (.slice A n c)) 32 from setRow_heap _ _ _ _ _ _ (BxC.new1 W.drew (ver0.key (.slice none 0 0)) 32 (.cells (ver0.sgn) 34)))
       have HQ6 := Lib.hid (show BxC (((W.drew.alloc (.cells (ver0.sgn) 34)).alloc (.cells (ver0.key (.slice none 0 0)) 32)).setRow (W.heap.size + 1) (v.key (.slice A n c))) W.heap.size ver0.sgn 34 from (BxC.alloc (BxC.new W.drew ver0.sgn 34) _).row (show W.heap.size ≠ W.heap.size + 1 from by omega))
       have HL6 := Lib.hid (show Below W.drew.heap.size W.drew (((W.drew.alloc (.cells (ver0.sgn) 34)).alloc (.cells (ver0.key (.slice none 0 0)) 32)).setRow (W.heap.size + 1) (v.key (.slice A n c))) from below_setRow (((Below.refl _ _).alloc (Nat.le_refl _) _).alloc (by simp) _) (Nat.le_succ _) _)
       have hne6 : W.heap.size + 1 ≠ W.heap.size := by omega
       show wpList _ _ _ _ _ (((W.drew.alloc (.cells (ver0.sgn) 34)).alloc (.cells (ver0.key (.slice none 0 0)) 32)).setRow (W.heap.size + 1) (v.key (.slice A n c)))
       obtain ⟨w6, hw6⟩ : ∃ w6, ((W.drew.alloc (.cells (ver0.sgn) 34)).alloc (.cells (ver0.key (.slice none 0 0)) 32)).setRow (W.heap.size + 1) (v.key (.slice A n c)) = w6 := ⟨_, rfl⟩)
    | (refine wpList_store_rowTo rfl 32 _ _ rfl rfl W.heap.size (v.key (.slice A n c)) rfl rfl 32 (ver0.key (.slice none 0 0)) (BxC.alloc (BxC.new W.drew (ver0.key (.slice none 0 0)) 32) (.cells (ver0.sgn) 34)) (by kernel_rfl) rfl (v.key_one A n c) ?_
       have HP6 := Lib.hid (show BxC (((W.drew.alloc (.cells (ver0.key (.slice none 0 0)) 32)).alloc (.cells (ver0.sgn) 34)).setRow W.heap.size (v.key (.slice A n c))) W.heap.size (v.key (.slice A n c)) 32 from setRow_heap _ _ _ _ _ _ (BxC.alloc (BxC.new W.drew (ver0.key (.slice none 0 0)) 32) (.cells (ver0.sgn) 34)))
       have HQ6 := Lib.hid (show BxC (((W.drew.alloc (.cells (ver0.key (.slice none 0 0)) 32)).alloc (.cells (ver0.sgn) 34)).setRow W.heap.size (v.key (.slice A n c))) (W.heap.size + 1) ver0.sgn 34 from (BxC.new1 W.drew ver0.sgn 34 _).row (show W.heap.size + 1 ≠ W.heap.size from by omega))
       have HL6 := Lib.hid (show Below W.drew.heap.size W.drew (((W.drew.alloc (.cells (ver0.key (.slice none 0 0)) 32)).alloc (.cells (ver0.sgn) 34)).setRow W.heap.size (v.key (.slice A n c))) from below_setRow (((Below.refl _ _).alloc (Nat.le_refl _) _).alloc (by simp) _) (Nat.le_refl _) _)
       have hne6 : W.heap.size ≠ W.heap.size + 1 := by omega
       show wpList _ _ _ _ _ (((W.drew.alloc (.cells (ver0.key (.slice none 0 0)) 32)).alloc (.cells (ver0.sgn) 34)).setRow W.heap.size (v.key (.slice A n c)))
       obtain ⟨w6, hw6⟩ : ∃ w6, ((W.drew.alloc (.cells (ver0.key (.slice none 0 0)) 32)).alloc (.cells (ver0.sgn) 34)).setRow W.heap.size (v.key (.slice A n c)) = w6 := ⟨_, rfl⟩)
    rw [hw6] at HP6 HL6 ⊢
    try rw [hw6] at HQ6
    clear hw6
    go_wp2
    refine hK6 _ _ (by exact HL6.out) ?_; clear hK6; intro hS_0_6_4 hD
    refine wpAnyK_one (i := 7) (fuel := 0) (by kernel_rfl) rfl hD ?_
    clear hD; intro K7 hK7
    first
    | (refine wpList_store_rowTo rfl 34 _ _ rfl rfl (W.heap.size + 1) v.sgn rfl rfl 34 ver0.sgn HQ6.out (by kernel_rfl) rfl v.sgn_one ?_
       have HP7 := Lib.hid (HP6.out.row (C := W.heap.size + 1) (ds := v.sgn) hne6)
       have HQ7 := Lib.hid (show BxC _ _ v.sgn 34 from setRow_heap _ _ _ v.sgn _ _ HQ6.out)
       have HL7 := Lib.hid (below_setRow HL6.out (g := W.heap.size + 1) (Nat.le_add_right _ _) v.sgn))
    | (refine wpList_store_rowTo rfl 34 _ _ rfl rfl (W.heap.size) v.sgn rfl rfl 34 ver0.sgn HQ6.out (by kernel_rfl) rfl v.sgn_one ?_
       have HP7 := Lib.hid (HP6.out.row (C := W.heap.size) (ds := v.sgn) hne6)
       have HQ7 := Lib.hid (show BxC _ _ v.sgn 34 from setRow_heap _ _ _ v.sgn _ _ HQ6.out)
       have HL7 := Lib.hid (below_setRow HL6.out (g := W.heap.size) (Nat.le_refl _) v.sgn))
    | (have hlt6 := HP6.out.lt
       refine wpList_store_rowTo rfl 34 _ _ rfl rfl w6.heap.size v.sgn rfl rfl 34 ver0.sgn (BxC.new w6 ver0.sgn 34) (by kernel_rfl) rfl v.sgn_one ?_
       have HP7 := Lib.hid ((HP6.out.alloc (.cells ver0.sgn 34)).row (C := w6.heap.size) (ds := v.sgn) (by omega))
       have HQ7 := Lib.hid (show BxC _ _ v.sgn 34 from setRow_heap _ _ _ v.sgn _ _ (BxC.new w6 ver0.sgn 34))
       have HL7 := Lib.hid (below_setRow (HL6.out.alloc HL6.out.size (.cells ver0.sgn 34)) (g := w6.heap.size) HL6.out.size v.sgn))
    go_wp2
    refine hK7 _ _ (by exact HL7.out) ?_; clear hK7; intro hS_0_7_4 hD
    refine wpAnyK_done (by kernel_rfl) ?_ 0
    clear hD
    exact rest _ _ _ HP7.out HQ7.out HL7.out
  · unfold StepK
    clear hD; intro K5 hK5
    go_wp2
    refine hK5 _ _ (by exact (Below.refl _ _).alloc (Nat.le_refl _) _) ?_; clear hK5; intro hS_0_5 hD
    refine wpAnyK_one (i := 4) (fuel := 2) (by kernel_rfl) rfl hD ?_
    clear hD; intro K4 hK4
    go_wp2
    refine hK4 _ _ (by exact Below.alloc hS_0_5 (Below.size hS_0_5) _) ?_; clear hK4; intro hS_0_4_5 hD
    refine wpAnyK_one (i := 6) (fuel := 1) (by kernel_rfl) rfl hD ?_
    clear hD; intro K6 hK6
    first
    | (refine wpList_store_rowTo rfl 32 _ _ rfl rfl W.heap.size (v.key (.slice A n c)) rfl rfl 32 (ver0.key (.slice none 0 0)) (BxC.new W.drew (ver0.key (.slice none 0 0)) 32) (by kernel_rfl) rfl (v.key_one A n c) ?_
       have HP6 := Lib.hid (show BxC ((W.drew.alloc (.cells (ver0.key (.slice none 0 0)) 32)).setRow W.heap.size (v.key (.slice A n c))) W.heap.size (v.key (.slice A n c)) 32 from setRow_heap _ _ _ _ _ _ (BxC.new W.drew (ver0.key (.slice none 0 0)) 32))
       have HQ6 := Lib.hid (True.intro)
       have HL6 := Lib.hid (show Below W.drew.heap.size W.drew ((W.drew.alloc (.cells (ver0.key (.slice none 0 0)) 32)).setRow W.heap.size (v.key (.slice A n c))) from below_setRow ((Below.refl _ _).alloc (Nat.le_refl _) _) (Nat.le_refl _) _)
       have hne6 := True.intro
       show wpList _ _ _ _ _ ((W.drew.alloc (.cells (ver0.key (.slice none 0 0)) 32)).setRow W.heap.size (v.key (.slice A n c)))
       obtain ⟨w6, hw6⟩ : ∃ w6, (W.drew.alloc (.cells (ver0.key (.slice none 0 0)) 32)).setRow W.heap.size (v.key (.slice A n c)) = w6 := ⟨_, rfl⟩)
    | (refine wpList_store_rowTo rfl 32 _ _ rfl rfl (W.heap.size + 1) (v.key (.slice A n c)) rfl rfl 32 (ver0.key (.slice none 0 0)) (BxC.new1 W.drew (ver0.key (.slice none 0 0)) 32 (.cells (ver0.sgn) 34)) (by kernel_rfl) rfl (v.key_one A n c) ?_
       have HP6 := Lib.hid (show BxC (((W.drew.alloc (.cells (ver0.sgn) 34)).alloc (.cells (ver0.key (.slice none 0 0)) 32)).setRow (W.heap.size + 1) (v.key (.slice A n c))) (W.heap.size + 1) (v.key (.slice A n c)) 32 from setRow_heap _ _ _ _ _ _ (BxC.new1 W.drew (ver0.key (.slice none 0 0)) 32 (.cells (ver0.sgn) 34)))
       have HQ6 := Lib.hid (show BxC (((W.drew.alloc (.cells (ver0.sgn) 34)).alloc (.cells (ver0.key (.slice none 0 0)) 32)).setRow (W.heap.size + 1) (v.key (.slice A n c))) W.heap.size ver0.sgn 34 from (BxC.alloc (BxC.new W.drew ver0.sgn 34) _).row (show W.heap.size ≠ W.heap.size + 1 from by omega))
       have HL6 := Lib.hid (show Below W.drew.heap.size W.drew (((W.drew.alloc (.cells (ver0.sgn) 34)).alloc (.cells (ver0.key (.slice none 0 0)) 32)).setRow (W.heap.size + 1) (v.key (.slice A n c))) from below_setRow (((Below.refl _ _).alloc (Nat.le_refl _) _).alloc (by simp) _) (Nat.le_succ _) _)
       have hne6 : W.heap.size + 1 ≠ W.heap.size := by omega
       show wpList _ _ _ _ _ (((W.drew.alloc (.cells (ver0.sgn) 34)).alloc (.cells (ver0.key (.slice none 0 0)) 32)).setRow (W.heap.size + 1) (v.key (.slice A n c)))
       obtain ⟨w6, hw6⟩ : ∃ w6, ((W.drew.alloc (.cells (ver0.sgn) 34)).alloc (.cells (ver0.key (.slice none 0 0)) 32)).setRow (W.heap.size + 1) (v.key (.slice A n c)) = w6 := ⟨_, rfl⟩)
    | (refine wpList_store_rowTo rfl 32 _ _ rfl rfl W.heap.size (v.key (.slice A n c)) rfl rfl 32 (ver0.key (.slice none 0 0)) (BxC.alloc (BxC.new W.drew (ver0.key (.slice none 0 0)) 32) (.cells (ver0.sgn) 34)) (by kernel_rfl) rfl (v.key_one A n c) ?_
       have HP6 := Lib.hid (show BxC (((W.drew.alloc (.cells (ver0.key (.slice none 0 0)) 32)).alloc (.cells (ver0.sgn) 34)).setRow W.heap.size (v.key (.slice A n c))) W.heap.size (v.key (.slice A n c)) 32 from setRow_heap _ _ _ _ _ _ (BxC.alloc (BxC.new W.drew (ver0.key (.slice none 0 0)) 32) (.cells (ver0.sgn) 34)))
       have HQ6 := Lib.hid (show BxC (((W.drew.alloc (.cells (ver0.key (.slice none 0 0)) 32)).alloc (.cells (ver0.sgn) 34)).setRow W.heap.size (v.key (.slice A n c))) (W.heap.size + 1) ver0.sgn 34 from (BxC.new1 W.drew ver0.sgn 34 _).row (show W.heap.size + 1 ≠ W.heap.size from by omega))
       have HL6 := Lib.hid (show Below W.drew.heap.size W.drew (((W.drew.alloc (.cells (ver0.key (.slice none 0 0)) 32)).alloc (.cells (ver0.sgn) 34)).setRow W.heap.size (v.key (.slice A n c))) from below_setRow (((Below.refl _ _).alloc (Nat.le_refl _) _).alloc (by simp) _) (Nat.le_refl _) _)
       have hne6 : W.heap.size ≠ W.heap.size + 1 := by omega
       show wpList _ _ _ _ _ (((W.drew.alloc (.cells (ver0.key (.slice none 0 0)) 32)).alloc (.cells (ver0.sgn) 34)).setRow W.heap.size (v.key (.slice A n c)))
       obtain ⟨w6, hw6⟩ : ∃ w6, ((W.drew.alloc (.cells (ver0.key (.slice none 0 0)) 32)).alloc (.cells (ver0.sgn) 34)).setRow W.heap.size (v.key (.slice A n c)) = w6 := ⟨_, rfl⟩)
    rw [hw6] at HP6 HL6 ⊢
    try rw [hw6] at HQ6
    clear hw6
    go_wp2
    refine hK6 _ _ (by exact HL6.out) ?_; clear hK6; intro hS_0_6_5 hD
    refine wpAnyK_one (i := 7) (fuel := 0) (by kernel_rfl) rfl hD ?_
    clear hD; intro K7 hK7
    first
    | (refine wpList_store_rowTo rfl 34 _ _ rfl rfl (W.heap.size + 1) v.sgn rfl rfl 34 ver0.sgn HQ6.out (by kernel_rfl) rfl v.sgn_one ?_
       have HP7 := Lib.hid (HP6.out.row (C := W.heap.size + 1) (ds := v.sgn) hne6)
       have HQ7 := Lib.hid (show BxC _ _ v.sgn 34 from setRow_heap _ _ _ v.sgn _ _ HQ6.out)
       have HL7 := Lib.hid (below_setRow HL6.out (g := W.heap.size + 1) (Nat.le_add_right _ _) v.sgn))
    | (refine wpList_store_rowTo rfl 34 _ _ rfl rfl (W.heap.size) v.sgn rfl rfl 34 ver0.sgn HQ6.out (by kernel_rfl) rfl v.sgn_one ?_
       have HP7 := Lib.hid (HP6.out.row (C := W.heap.size) (ds := v.sgn) hne6)
       have HQ7 := Lib.hid (show BxC _ _ v.sgn 34 from setRow_heap _ _ _ v.sgn _ _ HQ6.out)
       have HL7 := Lib.hid (below_setRow HL6.out (g := W.heap.size) (Nat.le_refl _) v.sgn))
    | (have hlt6 := HP6.out.lt
       refine wpList_store_rowTo rfl 34 _ _ rfl rfl w6.heap.size v.sgn rfl rfl 34 ver0.sgn (BxC.new w6 ver0.sgn 34) (by kernel_rfl) rfl v.sgn_one ?_
       have HP7 := Lib.hid ((HP6.out.alloc (.cells ver0.sgn 34)).row (C := w6.heap.size) (ds := v.sgn) (by omega))
       have HQ7 := Lib.hid (show BxC _ _ v.sgn 34 from setRow_heap _ _ _ v.sgn _ _ (BxC.new w6 ver0.sgn 34))
       have HL7 := Lib.hid (below_setRow (HL6.out.alloc HL6.out.size (.cells ver0.sgn 34)) (g := w6.heap.size) HL6.out.size v.sgn))
    go_wp2
    refine hK7 _ _ (by exact HL7.out) ?_; clear hK7; intro hS_0_7_5 hD
    refine wpAnyK_done (by kernel_rfl) ?_ 0
    clear hD
    exact rest _ _ _ HP7.out HQ7.out HL7.out
end Go.Proofs.Ytnfkccohmkfnoaa

/- Walk: dominoref37.Join. -/
import Derived.Test.YtelhpdlegjgjjaaEpK
import Derived.Test.YtelhpdlegjgjjaaEpH
set_option linter.unusedVariables false
set_option linter.unusedSimpArgs false
namespace Go.Proofs.Ytelhpdlegjgjjaa
open Go.RowKit

/-- The call returned a delta and an error. -/
def RetDl (p : Dl × Int) (w : World) (e : Ending) (w' : World) : Prop := ∃ A n c A' n' c', e = .returned (.tuple #[.agg (p.1.arr (.slice A n c) (.slice A' n' c')), .int .i64 p.2]) ∧ SlN w' A n c p.1.ad ∧ SlN w' A' n' c' p.1.rm ∧ Below w.heap.size w w'
/-- What a slice lies in is new. -/
def Frs (w : World) (A : Option Addr) (n : Nat) : Prop := 0 < n → ∀ ad, A = some ad → w.heap.size ≤ ad.block
/-- The call returned a delta of its own and an error. -/
def RetDlF (p : Dl × Int) (w : World) (e : Ending) (w' : World) : Prop := ∃ A n c A' n' c', e = .returned (.tuple #[.agg (p.1.arr (.slice A n c) (.slice A' n' c')), .int .i64 p.2]) ∧ SlN w' A n c p.1.ad ∧ SlN w' A' n' c' p.1.rm ∧ Frs w A n ∧ Frs w A' n' ∧ Below w.heap.size w w'
theorem RetDlF.out {p : Dl × Int} {w w' : World} {e : Ending} (h : RetDlF p w e w') : RetDl p w e w' :=
  let ⟨A, n, c, A', n', c', h1, h2, h3, _, _, h4⟩ := h
  ⟨A, n, c, A', n', c', h1, h2, h3, h4⟩
theorem Dl.one (d : Dl) (A : Option Addr) (n c : Nat) (A' : Option Addr) (n' c' : Nat) : (d.arr (.slice A n c) (.slice A' n' c')).all (·.oneCell') = true := by simp [Dl.arr, Value.oneCell']
theorem own_sln {w : World} {base : Nat} {v : Value} {n : Nat} {l : List ByteArray} (h : w.ownsRow base 23 1 v n (l.map Value.string)) : ∃ A c, v = .slice A n c ∧ SlN w A n c l ∧ (0 < n → ∀ a, A = some a → base ≤ a.block ∧ a.block < w.heap.size) := by
  obtain ⟨_, A, c, rfl, hs⟩ := SlN.of_owns h
  refine ⟨A, c, rfl, hs, fun h0 a he => ?_⟩
  obtain ⟨g, cap, hv, h1, h2⟩ := h.form h0
  cases hv
  cases he
  exact ⟨h1, h2⟩
set_option maxRecDepth 100000 in
set_option maxHeartbeats 4000000 in
theorem r37_JoinF (a b : Dl) (A1 A2 A3 A4 : Option Addr) (n1 c1 n2 c2 n3 c3 n4 c4 : Nat) (w : World) (h1 : SlN w A1 n1 c1 a.ad) (h2 : SlN w A2 n2 c2 a.rm) (h3 : SlN w A3 n3 c3 b.ad) (h4 : SlN w A4 n4 c4 b.rm) (g1 : n1 ≤ 400000) (g2 : n2 ≤ 400000) (g3 : n3 ≤ 400000) (g4 : n4 ≤ 400000) (za : SzL a.str) (zb : SzL b.str) :
    Calls Try.prog 12 #[.agg (a.arr (.slice A1 n1 c1) (.slice A2 n2 c2)), .agg (b.arr (.slice A3 n3 c3) (.slice A4 n4 c4))] w (RetDlF (jn a b) w) := by
  obtain ⟨W0, hW0⟩ : ∃ W0, ((w.alloc (.cells (a.arr (.slice A1 n1 c1) (.slice A2 n2 c2)) 27)).alloc (.cells (b.arr (.slice A3 n3 c3) (.slice A4 n4 c4)) 27)).alloc (.cells (Dl.zero.arr (.slice none 0 0) (.slice none 0 0)) 27) = W0 := ⟨_, rfl⟩
  obtain ⟨P, hP⟩ : ∃ P, w.heap.size = P := ⟨_, rfl⟩
  have HP0 := Lib.hid (show BxC W0 P (a.arr (.slice A1 n1 c1) (.slice A2 n2 c2)) 27 from by rw [← hW0, ← hP]; exact ((BxC.new w _ _).alloc _).alloc _)
  have HQ0 := Lib.hid (show BxC W0 (P + 1) (b.arr (.slice A3 n3 c3) (.slice A4 n4 c4)) 27 from by rw [← hW0, ← hP]; exact (BxC.new1 w _ _ _).alloc _)
  have HR0 := Lib.hid (show BxC W0 (P + 1 + 1) (Dl.zero.arr (.slice none 0 0) (.slice none 0 0)) 27 from by
    rw [← hW0, ← hP]
    have := BxC.new1 (w.alloc (.cells (a.arr (.slice A1 n1 c1) (.slice A2 n2 c2)) 27)) (Dl.zero.arr (.slice none 0 0) (.slice none 0 0)) 27 (.cells (b.arr (.slice A3 n3 c3) (.slice A4 n4 c4)) 27)
    rwa [World.size_alloc] at this)
  have HB0 := Lib.hid (show Below P w W0 from by rw [← hW0, ← hP]; exact (((Below.refl _ _).alloc (Nat.le_refl _) _).alloc (by simp) _).alloc (by simp; omega) _)
  have HW0 := Lib.hid (show P + 3 = W0.heap.size from by rw [← hW0, ← hP]; simp)
  have H1 := Lib.hid (h1.kept HB0.out (Nat.le_of_eq hP))
  have H2 := Lib.hid (h2.kept HB0.out (Nat.le_of_eq hP))
  have H3 := Lib.hid (h3.kept HB0.out (Nat.le_of_eq hP))
  have H4 := Lib.hid (h4.kept HB0.out (Nat.le_of_eq hP))
  have m1 := h1.2.1
  have m2 := h2.2.1
  have m3 := h3.2.1
  have m4 := h4.2.1
  have k1 := h1.2.2.1
  have k2 := h2.2.2.1
  have k3 := h3.2.2.1
  have k4 := h4.2.2.1
  have L1 := Lib.hid h1.1
  have L2 := Lib.hid h2.1
  have L3 := Lib.hid h3.1
  have L4 := Lib.hid h4.1
  have ZA := Lib.hid za
  have ZB := Lib.hid zb
  have p0 : W0.cell? ⟨P, 0, none⟩ = some (.int .i64 a.fr) := BxC.cell HP0.out 0
  have p1 : W0.cell? ⟨P, 1, none⟩ = some (.int .i64 a.to) := BxC.cell HP0.out 1
  have p2 : W0.cell? ⟨P, 2, none⟩ = some (.slice A1 n1 c1) := BxC.cell HP0.out 2
  have p3 : W0.cell? ⟨P, 3, none⟩ = some (.slice A2 n2 c2) := BxC.cell HP0.out 3
  have p4 : W0.cell? ⟨P, 4, none⟩ = some (.string a.be) := BxC.cell HP0.out 4
  have p5 : W0.cell? ⟨P, 5, none⟩ = some (.string a.af) := BxC.cell HP0.out 5
  have p6 : W0.cell? ⟨P, 6, none⟩ = some (.string a.sc) := BxC.cell HP0.out 6
  have p7 : W0.cell? ⟨P, 7, none⟩ = some (.string a.sr) := BxC.cell HP0.out 7
  have HC := Lib.hid (r37_Message a A1 A2 n1 c1 n2 c2 W0 H1.out H2.out g1 g2 ZA.out)
  have HPE := Lib.hid hP
  clear h1 h2 h3 h4 za zb
  unfold Dl.arr Dl.zero at hW0
  unfold Dl.arr
  go_enter Try.func12, Try.ntmps12
  go_wp2_with fail
  refine (show Calls _ _ _ _ _ from HC.out).mono ?_
  rintro e w1 ⟨rfl, hb⟩
  have HB1 := Lib.hid hb
  have HP1 := Lib.hid (HP0.out.next hb)
  have HQ1 := Lib.hid (HQ0.out.next hb)
  have HR1 := Lib.hid (HR0.out.next hb)
  clear hb p0 p1 p2 p3 p4 p5 p6 p7 hW0 HC
  obtain ⟨r1, e1, hr⟩ : ∃ r1 e1, a.msg = (r1, e1) := ⟨_, _, rfl⟩
  rw [hr]
  by_cases he : e1 = 0
  · subst he
    have HE1 := Lib.hid (show a.msg.2 = 0 from by rw [hr])
    have q0 : w1.cell? ⟨P + 1, 0, none⟩ = some (.int .i64 b.fr) := BxC.cell HQ1.out 0
    have q1 : w1.cell? ⟨P + 1, 1, none⟩ = some (.int .i64 b.to) := BxC.cell HQ1.out 1
    have q2 : w1.cell? ⟨P + 1, 2, none⟩ = some (.slice A3 n3 c3) := BxC.cell HQ1.out 2
    have q3 : w1.cell? ⟨P + 1, 3, none⟩ = some (.slice A4 n4 c4) := BxC.cell HQ1.out 3
    have q4 : w1.cell? ⟨P + 1, 4, none⟩ = some (.string b.be) := BxC.cell HQ1.out 4
    have q5 : w1.cell? ⟨P + 1, 5, none⟩ = some (.string b.af) := BxC.cell HQ1.out 5
    have q6 : w1.cell? ⟨P + 1, 6, none⟩ = some (.string b.sc) := BxC.cell HQ1.out 6
    have q7 : w1.cell? ⟨P + 1, 7, none⟩ = some (.string b.sr) := BxC.cell HQ1.out 7
    have HC := Lib.hid (r37_Message b A3 A4 n3 c3 n4 c4 w1 (H3.out.kept HB1.out (Nat.le_refl _)) (H4.out.kept HB1.out (Nat.le_refl _)) g3 g4 ZB.out)
    clear hr
    go_wp2_with fail
    refine (show Calls _ _ _ _ _ from HC.out).mono ?_
    rintro e w2 ⟨rfl, hb⟩
    have HB2 := Lib.hid (HB1.out.trans (hb.mono HB1.out.size))
    have HP2 := Lib.hid (HP1.out.next hb)
    have HQ2 := Lib.hid (HQ1.out.next hb)
    have HR2 := Lib.hid (HR1.out.next hb)
    clear hb q0 q1 q2 q3 q4 q5 q6 q7 HC
    obtain ⟨r2, e2, hr⟩ : ∃ r2 e2, b.msg = (r2, e2) := ⟨_, _, rfl⟩
    rw [hr]
    by_cases he : e2 = 0
    · subst he
      have HE2 := Lib.hid (show b.msg.2 = 0 from by rw [hr])
      clear hr
      have p1 : w2.cell? ⟨P, 1, none⟩ = some (.int .i64 a.to) := HP2.out.cell 1
      have p5 : w2.cell? ⟨P, 5, none⟩ = some (.string a.af) := HP2.out.cell 5
      have q0 : w2.cell? ⟨P + 1, 0, none⟩ = some (.int .i64 b.fr) := HQ2.out.cell 0
      have q4 : w2.cell? ⟨P + 1, 4, none⟩ = some (.string b.be) := HQ2.out.cell 4
      have HRB := Lib.hid HR2.out
      have HBB := Lib.hid (HB0.out.trans (HB2.out.mono (by have := HW0.out; omega)))
      by_cases ht : a.to = b.fr
      · have hd : (a.to != b.fr) = false := by simpa using ht
        have HT := Lib.hid ht
        clear ht
        by_cases hs : a.af = b.be
        · have hs2 : (a.af.toList == b.be.toList) = true := by rw [hs]; simp
          have HJL := Lib.hid (show clash a b = true → jn a b = (Dl.zero, 8) from fun h => by unfold jn; rw [if_neg (by rw [HE1.out]; simp), if_neg (by rw [HE2.out]; simp), if_neg (by rw [HT.out]; simp), if_neg (by rw [hs]; simp), if_pos h])
          have HJN := Lib.hid (show clash a b = false → jn a b = (⟨a.fr, b.to, mrg (memB b.rm) (memB a.rm) a.ad b.ad, mrg (memB b.ad) (memB a.ad) a.rm b.rm, a.be, b.af, ⟨#[]⟩, ⟨#[]⟩⟩, 0) from fun h => by unfold jn; rw [if_neg (by rw [HE1.out]; simp), if_neg (by rw [HE2.out]; simp), if_neg (by rw [HT.out]; simp), if_neg (by rw [hs]; simp), if_neg (by rw [h]; simp)])
          have H12 := Lib.hid (H1.out.kept HB2.out (Nat.le_refl _))
          have H22 := Lib.hid (H2.out.kept HB2.out (Nat.le_refl _))
          have H32 := Lib.hid (H3.out.kept HB2.out (Nat.le_refl _))
          have H42 := Lib.hid (H4.out.kept HB2.out (Nat.le_refl _))
          clear hs HRB HBB
          go_wp2
          go_loopw [10] (fun i wr => ∃ j : Nat, j ≤ n1 ∧ i = .int .i64 j ∧ (∀ (i : Nat) y, i < j → a.ad[i]? = some y → memB b.ad y = false) ∧ Below w2.heap.size w2 wr) (fun i _ => n1 - (intOf i).toNat)
          case atStart => exact ⟨0, Nat.zero_le _, rfl, fun i u h => absurd h (Nat.not_lt_zero _), Below.refl _ _⟩
          case round =>
            obtain ⟨j, hj, rfl, hall, hbb⟩ := hrel
            have HALL := Lib.hid hall
            have HB := Lib.hid hbb
            have t2 : wr.cell? ⟨P, 2, none⟩ = some (.slice A1 n1 c1) := (HP2.out.next hbb).cell 2
            clear hall hbb
            by_cases hlt : j < n1
            · obtain ⟨y, he⟩ : ∃ y, a.ad[j]? = some y := ⟨_, List.getElem?_eq_getElem (by rw [L1.out]; exact hlt)⟩
              obtain ⟨bb, oo, rfl, e1⟩ := (H12.out.kept HB.out (Nat.le_refl _)).cell he
              have e1 : wr.drew.cell? ⟨bb, oo + j, none⟩ = some (.string y) := e1
              have e2 : wr.drew.cell? ⟨P, 2, none⟩ = some (.slice (some ⟨bb, oo, none⟩) n1 c1) := t2
              have e3 : wr.drew.cell? ⟨P + 1, 2, none⟩ = some (.slice A3 n3 c3) := (HQ2.out.next HB.out).cell 2
              have HCM := Lib.hid (r37_has b.ad A3 n3 c3 y wr.drew ((H32.out.kept HB.out (Nat.le_refl _)).kept (Below.refl _ wr).drew (Nat.le_refl _)))
              have HE := Lib.hid he
              clear he
              go_wp2
              refine wp_region_K 8 (Below (wr.drew).heap.size (wr.drew)) (by kernel_rfl) ?_
              intro hD
              refine wpAnyK_pureD (i := 0) (d := some 50) (v := ?v14_0b1) (fuel := 7) rfl (by kernel_rfl) (by kernel_rfl) (fun _ _ _ h => h) hD (Below.refl _ _) (.inl ⟨by kernel_rfl, ?y14_0b1⟩) ?n14_0b1
              case y14_0b1 => intro w' _; go_simp; with_reducible rfl
              clear hD; intro hD
              simp only [Act.put, List.setIfInBounds_toArray, List.set_cons_zero, List.set_cons_succ]
              refine wpAnyK_takeSD (i := 1) (d := some 51) (v := ?v14_1b1) (fuel := 6) rfl (by kernel_rfl) (by kernel_rfl) (by kernel_rfl) (fun _ _ _ h => h) hD (Below.refl _ _) (.inl ⟨by kernel_rfl, ?y14_1b1⟩) ?n14_1b1
              case y14_1b1 => intro w' hS'; have e0 := cell_kept hS' (Nat.le_refl _) e1; have e1 := cell_kept hS' (Nat.le_refl _) e2; have e2 := cell_kept hS' (Nat.le_refl _) e3; go_simp; with_reducible rfl
              clear hD; intro hD
              simp only [Act.put, List.setIfInBounds_toArray, List.set_cons_zero, List.set_cons_succ]
              refine wpAnyK_pureD (i := 2) (d := some 52) (v := ?v14_2b1) (fuel := 5) rfl (by kernel_rfl) (by kernel_rfl) (fun _ _ _ h => h) hD (Below.refl _ _) (.inl ⟨by kernel_rfl, ?y14_2b1⟩) ?n14_2b1
              case y14_2b1 => intro w' _; go_simp; with_reducible rfl
              clear hD; intro hD
              simp only [Act.put, List.setIfInBounds_toArray, List.set_cons_zero, List.set_cons_succ]
              refine wpAnyK_takeSD (i := 3) (d := some 53) (v := ?v14_3b1) (fuel := 4) rfl (by kernel_rfl) (by kernel_rfl) (by kernel_rfl) (fun _ _ _ h => h) hD (Below.refl _ _) (.inl ⟨by kernel_rfl, ?y14_3b1⟩) ?n14_3b1
              case y14_3b1 => intro w' hS'; have e0 := cell_kept hS' (Nat.le_refl _) e1; have e1 := cell_kept hS' (Nat.le_refl _) e2; have e2 := cell_kept hS' (Nat.le_refl _) e3; go_simp; with_reducible rfl
              clear hD; intro hD
              simp only [Act.put, List.setIfInBounds_toArray, List.set_cons_zero, List.set_cons_succ]
              refine wpAnyK_pureD (i := 4) (d := some 54) (v := ?v14_4b1) (fuel := 3) rfl (by kernel_rfl) (by kernel_rfl) (fun _ _ _ h => h) hD (Below.refl _ _) (.inl ⟨by kernel_rfl, ?y14_4b1⟩) ?n14_4b1
              case y14_4b1 => intro w' _; go_simp; with_reducible rfl
              clear hD; intro hD
              simp only [Act.put, List.setIfInBounds_toArray, List.set_cons_zero, List.set_cons_succ]
              refine wpAnyK_pureD (i := 5) (d := some 55) (v := ?v14_5b1) (fuel := 2) rfl (by kernel_rfl) (by kernel_rfl) (fun _ _ _ h => h) hD (Below.refl _ _) (.inl ⟨by kernel_rfl, ?y14_5b1⟩) ?n14_5b1
              case y14_5b1 => intro w' _; go_simp; with_reducible rfl
              clear hD; intro hD
              simp only [Act.put, List.setIfInBounds_toArray, List.set_cons_zero, List.set_cons_succ]
              refine wpAnyK_takeSD (i := 6) (d := some 56) (v := ?v14_6b1) (fuel := 1) rfl (by kernel_rfl) (by kernel_rfl) (by kernel_rfl) (fun _ _ _ h => h) hD (Below.refl _ _) (.inl ⟨by kernel_rfl, ?y14_6b1⟩) ?n14_6b1
              case y14_6b1 => intro w' hS'; have e0 := cell_kept hS' (Nat.le_refl _) e1; have e1 := cell_kept hS' (Nat.le_refl _) e2; have e2 := cell_kept hS' (Nat.le_refl _) e3; go_simp; with_reducible rfl
              clear hD; intro hD
              simp only [Act.put, List.setIfInBounds_toArray, List.set_cons_zero, List.set_cons_succ]
              refine wpAnyK_one (i := 7) (fuel := 0) (by kernel_rfl) rfl hD ?_
              clear hD; intro K7 hK7
              go_wp2_with fail
              refine HCM.out.mono ?_
              rintro e w3 ⟨rfl, hb⟩
              have HL3 := Lib.hid hb
              go_wp2
              refine hK7 _ _ (by exact hb) ?_; clear hK7; intro hS_14_7 hD
              refine wpAnyK_done (by kernel_rfl) ?_ 0
              clear hD
              have HBX := Lib.hid (HB.out.trans (((Below.refl wr.heap.size wr).drew.trans HL3.out).mono HB.out.size))
              cases hh : memB b.ad y with
              | true =>
                have HJ := Lib.hid (show jn a b = (Dl.zero, 8) from HJL.out (by unfold clash; rw [any_at HE.out hh, Bool.true_or]))
                clear hh
                have HRB := Lib.hid (HR2.out.next HBX.out)
                have HBB := Lib.hid (HB0.out.trans ((HB2.out.trans (HBX.out.mono HB2.out.size)).mono (by have := HW0.out; omega)))
                go_wp2_with (refine wpList_store_rowTo rfl 27 _ _ rfl rfl (P + 1 + 1) (Dl.zero.arr (.slice none 0 0) (.slice none 0 0)) rfl rfl 27 (Dl.zero.arr (.slice none 0 0) (.slice none 0 0)) HRB.out (by kernel_rfl) rfl (Dl.zero.one _ _ _ _ _ _) ?_)
                have HRZ := Lib.hid (show BxC _ (P + 1 + 1) (Dl.zero.arr (.slice none 0 0) (.slice none 0 0)) 27 from setRow_heap _ _ _ (Dl.zero.arr (.slice none 0 0) (.slice none 0 0)) _ _ HRB.out)
                have HBZ := Lib.hid (below_setRow HBB.out (g := P + 1 + 1) (by omega) (Dl.zero.arr (.slice none 0 0) (.slice none 0 0)))
                go_wp2
                have y0 : (w3.setRow (P + 1 + 1) (Dl.zero.arr (.slice none 0 0) (.slice none 0 0))).cell? ⟨P + 1 + 1, 0, none⟩ = some (.int .i64 0) := HRZ.out.cell 0
                have y1 : (w3.setRow (P + 1 + 1) (Dl.zero.arr (.slice none 0 0) (.slice none 0 0))).cell? ⟨P + 1 + 1, 1, none⟩ = some (.int .i64 0) := HRZ.out.cell 1
                have y2 : (w3.setRow (P + 1 + 1) (Dl.zero.arr (.slice none 0 0) (.slice none 0 0))).cell? ⟨P + 1 + 1, 2, none⟩ = some (.slice none 0 0) := HRZ.out.cell 2
                have y3 : (w3.setRow (P + 1 + 1) (Dl.zero.arr (.slice none 0 0) (.slice none 0 0))).cell? ⟨P + 1 + 1, 3, none⟩ = some (.slice none 0 0) := HRZ.out.cell 3
                have y4 : (w3.setRow (P + 1 + 1) (Dl.zero.arr (.slice none 0 0) (.slice none 0 0))).cell? ⟨P + 1 + 1, 4, none⟩ = some (.string ⟨#[]⟩) := HRZ.out.cell 4
                have y5 : (w3.setRow (P + 1 + 1) (Dl.zero.arr (.slice none 0 0) (.slice none 0 0))).cell? ⟨P + 1 + 1, 5, none⟩ = some (.string ⟨#[]⟩) := HRZ.out.cell 5
                have y6 : (w3.setRow (P + 1 + 1) (Dl.zero.arr (.slice none 0 0) (.slice none 0 0))).cell? ⟨P + 1 + 1, 6, none⟩ = some (.string ⟨#[]⟩) := HRZ.out.cell 6
                have y7 : (w3.setRow (P + 1 + 1) (Dl.zero.arr (.slice none 0 0) (.slice none 0 0))).cell? ⟨P + 1 + 1, 7, none⟩ = some (.string ⟨#[]⟩) := HRZ.out.cell 7
                exact bodyPost_ret (v := .tuple #[.agg #[.int .i64 0, .int .i64 0, .slice none 0 0, .slice none 0 0, .string ⟨#[]⟩, .string ⟨#[]⟩, .string ⟨#[]⟩, .string ⟨#[]⟩], .int .i64 8]) (by simp [results, Try.results12, go_sem, y0, y1, y2, y3, y4, y5, y6, y7]) rfl ⟨none, 0, 0, none, 0, 0, by rw [HJ.out]; rfl, by rw [HJ.out]; exact SlN.nil _ _ (by omega) _, by rw [HJ.out]; exact SlN.nil _ _ (by omega) _, (fun h0 => by simp at h0), (fun h0 => by simp at h0), by rw [HPE.out]; exact HBZ.out⟩
              | false =>
                have HA2 := Lib.hid (show ∀ (i : Nat) u, i < j + 1 → a.ad[i]? = some u → memB b.ad u = false from fun i u hi hu => by
                  rcases Nat.lt_or_ge i j with h | h
                  · exact HALL.out i u h hu
                  · obtain rfl : i = j := by omega
                    rw [HE.out] at hu; cases hu; exact hh)
                clear hh
                go_wp2
                go_roundw
                case rel => exact ⟨j + 1, by omega, by go_num, HA2.out, HBX.out⟩
                case measure => simp [intOf]; omega
            · have HANY := Lib.hid (show a.ad.any (memB b.ad) = false from any_take (fun i y h => HALL.out i y (by have := (List.getElem?_eq_some_iff.1 h).1; have := L1.out; omega) h))
              obtain ⟨wz, hwz⟩ : ∃ wz, wz = wr := ⟨_, rfl⟩
              subst hwz
              have HBZ1 := Lib.hid HB.out
              clear HB HALL
              have hjn : n1 = j := by omega
              subst hjn
              clear hlt hj
              have HAN1 := Lib.hid HANY.out
              clear HANY
              go_wp2
              go_loopw [11] (fun i wr => ∃ j : Nat, j ≤ n2 ∧ i = .int .i64 j ∧ (∀ (i : Nat) y, i < j → a.rm[i]? = some y → memB b.rm y = false) ∧ Below w2.heap.size w2 wr) (fun i _ => n2 - (intOf i).toNat)
              case atStart => exact ⟨0, Nat.zero_le _, rfl, fun i u h => absurd h (Nat.not_lt_zero _), HBZ1.out⟩
              case round =>
                obtain ⟨j, hj, rfl, hall, hbb⟩ := hrel
                have HALL := Lib.hid hall
                have HB := Lib.hid hbb
                have t2 : wr.cell? ⟨P, 3, none⟩ = some (.slice A2 n2 c2) := (HP2.out.next hbb).cell 3
                clear hall hbb
                by_cases hlt : j < n2
                · obtain ⟨y, he⟩ : ∃ y, a.rm[j]? = some y := ⟨_, List.getElem?_eq_getElem (by rw [L2.out]; exact hlt)⟩
                  obtain ⟨bb, oo, rfl, e1⟩ := (H22.out.kept HB.out (Nat.le_refl _)).cell he
                  have e1 : wr.drew.cell? ⟨bb, oo + j, none⟩ = some (.string y) := e1
                  have e2 : wr.drew.cell? ⟨P, 3, none⟩ = some (.slice (some ⟨bb, oo, none⟩) n2 c2) := t2
                  have e3 : wr.drew.cell? ⟨P + 1, 3, none⟩ = some (.slice A4 n4 c4) := (HQ2.out.next HB.out).cell 3
                  have HCM := Lib.hid (r37_has b.rm A4 n4 c4 y wr.drew ((H42.out.kept HB.out (Nat.le_refl _)).kept (Below.refl _ wr).drew (Nat.le_refl _)))
                  have HE := Lib.hid he
                  clear he
                  go_wp2
                  refine wp_region_K 8 (Below (wr.drew).heap.size (wr.drew)) (by kernel_rfl) ?_
                  intro hD
                  refine wpAnyK_pureD (i := 0) (d := some 66) (v := ?v19_0b2) (fuel := 7) rfl (by kernel_rfl) (by kernel_rfl) (fun _ _ _ h => h) hD (Below.refl _ _) (.inl ⟨by kernel_rfl, ?y19_0b2⟩) ?n19_0b2
                  case y19_0b2 => intro w' _; go_simp; with_reducible rfl
                  clear hD; intro hD
                  simp only [Act.put, List.setIfInBounds_toArray, List.set_cons_zero, List.set_cons_succ]
                  refine wpAnyK_takeSD (i := 1) (d := some 67) (v := ?v19_1b2) (fuel := 6) rfl (by kernel_rfl) (by kernel_rfl) (by kernel_rfl) (fun _ _ _ h => h) hD (Below.refl _ _) (.inl ⟨by kernel_rfl, ?y19_1b2⟩) ?n19_1b2
                  case y19_1b2 => intro w' hS'; have e0 := cell_kept hS' (Nat.le_refl _) e1; have e1 := cell_kept hS' (Nat.le_refl _) e2; have e2 := cell_kept hS' (Nat.le_refl _) e3; go_simp; with_reducible rfl
                  clear hD; intro hD
                  simp only [Act.put, List.setIfInBounds_toArray, List.set_cons_zero, List.set_cons_succ]
                  refine wpAnyK_pureD (i := 2) (d := some 68) (v := ?v19_2b2) (fuel := 5) rfl (by kernel_rfl) (by kernel_rfl) (fun _ _ _ h => h) hD (Below.refl _ _) (.inl ⟨by kernel_rfl, ?y19_2b2⟩) ?n19_2b2
                  case y19_2b2 => intro w' _; go_simp; with_reducible rfl
                  clear hD; intro hD
                  simp only [Act.put, List.setIfInBounds_toArray, List.set_cons_zero, List.set_cons_succ]
                  refine wpAnyK_takeSD (i := 3) (d := some 69) (v := ?v19_3b2) (fuel := 4) rfl (by kernel_rfl) (by kernel_rfl) (by kernel_rfl) (fun _ _ _ h => h) hD (Below.refl _ _) (.inl ⟨by kernel_rfl, ?y19_3b2⟩) ?n19_3b2
                  case y19_3b2 => intro w' hS'; have e0 := cell_kept hS' (Nat.le_refl _) e1; have e1 := cell_kept hS' (Nat.le_refl _) e2; have e2 := cell_kept hS' (Nat.le_refl _) e3; go_simp; with_reducible rfl
                  clear hD; intro hD
                  simp only [Act.put, List.setIfInBounds_toArray, List.set_cons_zero, List.set_cons_succ]
                  refine wpAnyK_pureD (i := 4) (d := some 70) (v := ?v19_4b2) (fuel := 3) rfl (by kernel_rfl) (by kernel_rfl) (fun _ _ _ h => h) hD (Below.refl _ _) (.inl ⟨by kernel_rfl, ?y19_4b2⟩) ?n19_4b2
                  case y19_4b2 => intro w' _; go_simp; with_reducible rfl
                  clear hD; intro hD
                  simp only [Act.put, List.setIfInBounds_toArray, List.set_cons_zero, List.set_cons_succ]
                  refine wpAnyK_pureD (i := 5) (d := some 71) (v := ?v19_5b2) (fuel := 2) rfl (by kernel_rfl) (by kernel_rfl) (fun _ _ _ h => h) hD (Below.refl _ _) (.inl ⟨by kernel_rfl, ?y19_5b2⟩) ?n19_5b2
                  case y19_5b2 => intro w' _; go_simp; with_reducible rfl
                  clear hD; intro hD
                  simp only [Act.put, List.setIfInBounds_toArray, List.set_cons_zero, List.set_cons_succ]
                  refine wpAnyK_takeSD (i := 6) (d := some 72) (v := ?v19_6b2) (fuel := 1) rfl (by kernel_rfl) (by kernel_rfl) (by kernel_rfl) (fun _ _ _ h => h) hD (Below.refl _ _) (.inl ⟨by kernel_rfl, ?y19_6b2⟩) ?n19_6b2
                  case y19_6b2 => intro w' hS'; have e0 := cell_kept hS' (Nat.le_refl _) e1; have e1 := cell_kept hS' (Nat.le_refl _) e2; have e2 := cell_kept hS' (Nat.le_refl _) e3; go_simp; with_reducible rfl
                  clear hD; intro hD
                  simp only [Act.put, List.setIfInBounds_toArray, List.set_cons_zero, List.set_cons_succ]
                  refine wpAnyK_one (i := 7) (fuel := 0) (by kernel_rfl) rfl hD ?_
                  clear hD; intro K7 hK7
                  go_wp2_with fail
                  refine HCM.out.mono ?_
                  rintro e w3 ⟨rfl, hb⟩
                  have HL3 := Lib.hid hb
                  go_wp2
                  refine hK7 _ _ (by exact hb) ?_; clear hK7; intro hS_19_7 hD
                  refine wpAnyK_done (by kernel_rfl) ?_ 0
                  clear hD
                  have HBX := Lib.hid (HB.out.trans (((Below.refl wr.heap.size wr).drew.trans HL3.out).mono HB.out.size))
                  cases hh : memB b.rm y with
                  | true =>
                    have HJ := Lib.hid (show jn a b = (Dl.zero, 8) from HJL.out (by unfold clash; rw [HAN1.out, any_at HE.out hh, Bool.or_true]))
                    clear hh
                    have HRB := Lib.hid (HR2.out.next HBX.out)
                    have HBB := Lib.hid (HB0.out.trans ((HB2.out.trans (HBX.out.mono HB2.out.size)).mono (by have := HW0.out; omega)))
                    go_wp2_with (refine wpList_store_rowTo rfl 27 _ _ rfl rfl (P + 1 + 1) (Dl.zero.arr (.slice none 0 0) (.slice none 0 0)) rfl rfl 27 (Dl.zero.arr (.slice none 0 0) (.slice none 0 0)) HRB.out (by kernel_rfl) rfl (Dl.zero.one _ _ _ _ _ _) ?_)
                    have HRZ := Lib.hid (show BxC _ (P + 1 + 1) (Dl.zero.arr (.slice none 0 0) (.slice none 0 0)) 27 from setRow_heap _ _ _ (Dl.zero.arr (.slice none 0 0) (.slice none 0 0)) _ _ HRB.out)
                    have HBZ := Lib.hid (below_setRow HBB.out (g := P + 1 + 1) (by omega) (Dl.zero.arr (.slice none 0 0) (.slice none 0 0)))
                    go_wp2
                    have y0 : (w3.setRow (P + 1 + 1) (Dl.zero.arr (.slice none 0 0) (.slice none 0 0))).cell? ⟨P + 1 + 1, 0, none⟩ = some (.int .i64 0) := HRZ.out.cell 0
                    have y1 : (w3.setRow (P + 1 + 1) (Dl.zero.arr (.slice none 0 0) (.slice none 0 0))).cell? ⟨P + 1 + 1, 1, none⟩ = some (.int .i64 0) := HRZ.out.cell 1
                    have y2 : (w3.setRow (P + 1 + 1) (Dl.zero.arr (.slice none 0 0) (.slice none 0 0))).cell? ⟨P + 1 + 1, 2, none⟩ = some (.slice none 0 0) := HRZ.out.cell 2
                    have y3 : (w3.setRow (P + 1 + 1) (Dl.zero.arr (.slice none 0 0) (.slice none 0 0))).cell? ⟨P + 1 + 1, 3, none⟩ = some (.slice none 0 0) := HRZ.out.cell 3
                    have y4 : (w3.setRow (P + 1 + 1) (Dl.zero.arr (.slice none 0 0) (.slice none 0 0))).cell? ⟨P + 1 + 1, 4, none⟩ = some (.string ⟨#[]⟩) := HRZ.out.cell 4
                    have y5 : (w3.setRow (P + 1 + 1) (Dl.zero.arr (.slice none 0 0) (.slice none 0 0))).cell? ⟨P + 1 + 1, 5, none⟩ = some (.string ⟨#[]⟩) := HRZ.out.cell 5
                    have y6 : (w3.setRow (P + 1 + 1) (Dl.zero.arr (.slice none 0 0) (.slice none 0 0))).cell? ⟨P + 1 + 1, 6, none⟩ = some (.string ⟨#[]⟩) := HRZ.out.cell 6
                    have y7 : (w3.setRow (P + 1 + 1) (Dl.zero.arr (.slice none 0 0) (.slice none 0 0))).cell? ⟨P + 1 + 1, 7, none⟩ = some (.string ⟨#[]⟩) := HRZ.out.cell 7
                    exact bodyPost_ret (v := .tuple #[.agg #[.int .i64 0, .int .i64 0, .slice none 0 0, .slice none 0 0, .string ⟨#[]⟩, .string ⟨#[]⟩, .string ⟨#[]⟩, .string ⟨#[]⟩], .int .i64 8]) (by simp [results, Try.results12, go_sem, y0, y1, y2, y3, y4, y5, y6, y7]) rfl ⟨none, 0, 0, none, 0, 0, by rw [HJ.out]; rfl, by rw [HJ.out]; exact SlN.nil _ _ (by omega) _, by rw [HJ.out]; exact SlN.nil _ _ (by omega) _, (fun h0 => by simp at h0), (fun h0 => by simp at h0), by rw [HPE.out]; exact HBZ.out⟩
                  | false =>
                    have HA2 := Lib.hid (show ∀ (i : Nat) u, i < j + 1 → a.rm[i]? = some u → memB b.rm u = false from fun i u hi hu => by
                      rcases Nat.lt_or_ge i j with h | h
                      · exact HALL.out i u h hu
                      · obtain rfl : i = j := by omega
                        rw [HE.out] at hu; cases hu; exact hh)
                    clear hh
                    go_wp2
                    go_roundw
                    case rel => exact ⟨j + 1, by omega, by go_num, HA2.out, HBX.out⟩
                    case measure => simp [intOf]; omega
                · have HANY := Lib.hid (show a.rm.any (memB b.rm) = false from any_take (fun i y h => HALL.out i y (by have := (List.getElem?_eq_some_iff.1 h).1; have := L2.out; omega) h))
                  obtain ⟨wz, hwz⟩ : ∃ wz, wz = wr := ⟨_, rfl⟩
                  subst hwz
                  have HBZ2 := Lib.hid HB.out
                  clear HB HALL
                  have hjn : n2 = j := by omega
                  subst hjn
                  clear hlt hj
                  have HJ := Lib.hid (HJN.out (by unfold clash; rw [HAN1.out, HANY.out]; rfl))
                  obtain ⟨w3, hw3⟩ : ∃ w3, w3 = wz := ⟨_, rfl⟩
                  subst hw3
                  have HP3 := Lib.hid (HP2.out.next HBZ2.out)
                  have HQ3 := Lib.hid (HQ2.out.next HBZ2.out)
                  have HR3 := Lib.hid (HR2.out.next HBZ2.out)
                  have H13 := Lib.hid (H12.out.kept HBZ2.out (Nat.le_refl _))
                  have H23 := Lib.hid (H22.out.kept HBZ2.out (Nat.le_refl _))
                  have H33 := Lib.hid (H32.out.kept HBZ2.out (Nat.le_refl _))
                  have H43 := Lib.hid (H42.out.kept HBZ2.out (Nat.le_refl _))
                  have HB3 := Lib.hid (HB0.out.trans ((HB2.out.trans (HBZ2.out.mono HB2.out.size)).mono (by have := HW0.out; omega)))
                  clear p1 p5 q0 q4 t2
                  obtain ⟨WA, hWA⟩ : ∃ WA, w3.alloc (.cells #[.int .i64 0, .int .i64 0, .slice none 0 0, .slice none 0 0, .string ⟨#[]⟩, .string ⟨#[]⟩, .string ⟨#[]⟩, .string ⟨#[]⟩] 27) = WA := ⟨_, rfl⟩
                  have hb3A : Below w3.heap.size w3 WA := by rw [← hWA]; exact (Below.refl _ _).alloc (Nat.le_refl _) _
                  have HXA := Lib.hid (show BxC WA w3.heap.size #[.int .i64 0, .int .i64 0, .slice none 0 0, .slice none 0 0, .string ⟨#[]⟩, .string ⟨#[]⟩, .string ⟨#[]⟩, .string ⟨#[]⟩] 27 from by rw [← hWA]; exact BxC.new _ _ _)
                  have p0 : w3.cell? ⟨P, 0, none⟩ = some (.int .i64 a.fr) := BxC.cell HP3.out 0
                  have p1 : w3.cell? ⟨P, 1, none⟩ = some (.int .i64 a.to) := BxC.cell HP3.out 1
                  have p2 : w3.cell? ⟨P, 2, none⟩ = some (.slice A1 n1 c1) := BxC.cell HP3.out 2
                  have p3 : w3.cell? ⟨P, 3, none⟩ = some (.slice A2 n2 c2) := BxC.cell HP3.out 3
                  have p4 : w3.cell? ⟨P, 4, none⟩ = some (.string a.be) := BxC.cell HP3.out 4
                  have p5 : w3.cell? ⟨P, 5, none⟩ = some (.string a.af) := BxC.cell HP3.out 5
                  have p6 : w3.cell? ⟨P, 6, none⟩ = some (.string a.sc) := BxC.cell HP3.out 6
                  have p7 : w3.cell? ⟨P, 7, none⟩ = some (.string a.sr) := BxC.cell HP3.out 7
                  have q0 : w3.cell? ⟨P + 1, 0, none⟩ = some (.int .i64 b.fr) := BxC.cell HQ3.out 0
                  have q1 : w3.cell? ⟨P + 1, 1, none⟩ = some (.int .i64 b.to) := BxC.cell HQ3.out 1
                  have q2 : w3.cell? ⟨P + 1, 2, none⟩ = some (.slice A3 n3 c3) := BxC.cell HQ3.out 2
                  have q3 : w3.cell? ⟨P + 1, 3, none⟩ = some (.slice A4 n4 c4) := BxC.cell HQ3.out 3
                  have q4 : w3.cell? ⟨P + 1, 4, none⟩ = some (.string b.be) := BxC.cell HQ3.out 4
                  have q5 : w3.cell? ⟨P + 1, 5, none⟩ = some (.string b.af) := BxC.cell HQ3.out 5
                  have q6 : w3.cell? ⟨P + 1, 6, none⟩ = some (.string b.sc) := BxC.cell HQ3.out 6
                  have q7 : w3.cell? ⟨P + 1, 7, none⟩ = some (.string b.sr) := BxC.cell HQ3.out 7
                  have hb34 : Below w3.heap.size w3 (WA.setRow w3.heap.size #[.int .i64 a.fr, .int .i64 b.to, .slice none 0 0, .slice none 0 0, .string a.be, .string b.af, .string ⟨#[]⟩, .string ⟨#[]⟩]) := below_setRow hb3A (Nat.le_refl _) _
                  have HX4 := Lib.hid (show BxC (WA.setRow w3.heap.size #[.int .i64 a.fr, .int .i64 b.to, .slice none 0 0, .slice none 0 0, .string a.be, .string b.af, .string ⟨#[]⟩, .string ⟨#[]⟩]) w3.heap.size #[.int .i64 a.fr, .int .i64 b.to, .slice none 0 0, .slice none 0 0, .string a.be, .string b.af, .string ⟨#[]⟩, .string ⟨#[]⟩] 27 from setRow_heap _ _ _ _ _ _ HXA.out)
                  obtain ⟨W4, hW4⟩ : ∃ W4, WA.setRow w3.heap.size #[.int .i64 a.fr, .int .i64 b.to, .slice none 0 0, .slice none 0 0, .string a.be, .string b.af, .string ⟨#[]⟩, .string ⟨#[]⟩] = W4 := ⟨_, rfl⟩
                  rw [hW4] at hb34 HX4
                  clear hb3A
                  have HP4 := Lib.hid (HP3.out.next hb34)
                  have HQ4 := Lib.hid (HQ3.out.next hb34)
                  have HR4 := Lib.hid (HR3.out.next hb34)
                  have H14 := Lib.hid (H13.out.kept hb34 (Nat.le_refl _))
                  have H24 := Lib.hid (H23.out.kept hb34 (Nat.le_refl _))
                  have H34 := Lib.hid (H33.out.kept hb34 (Nat.le_refl _))
                  have H44 := Lib.hid (H43.out.kept hb34 (Nat.le_refl _))
                  have HB4 := Lib.hid (HB3.out.trans (hb34.mono (by have := HP3.out.lt; omega)))
                  have s0 : W4.cell? ⟨P, 0, none⟩ = some (.int .i64 a.fr) := BxC.cell HP4.out 0
                  have s1 : W4.cell? ⟨P, 1, none⟩ = some (.int .i64 a.to) := BxC.cell HP4.out 1
                  have s2 : W4.cell? ⟨P, 2, none⟩ = some (.slice A1 n1 c1) := BxC.cell HP4.out 2
                  have s3 : W4.cell? ⟨P, 3, none⟩ = some (.slice A2 n2 c2) := BxC.cell HP4.out 3
                  have s4 : W4.cell? ⟨P, 4, none⟩ = some (.string a.be) := BxC.cell HP4.out 4
                  have s5 : W4.cell? ⟨P, 5, none⟩ = some (.string a.af) := BxC.cell HP4.out 5
                  have s6 : W4.cell? ⟨P, 6, none⟩ = some (.string a.sc) := BxC.cell HP4.out 6
                  have s7 : W4.cell? ⟨P, 7, none⟩ = some (.string a.sr) := BxC.cell HP4.out 7
                  have t0 : W4.cell? ⟨P + 1, 0, none⟩ = some (.int .i64 b.fr) := BxC.cell HQ4.out 0
                  have t1 : W4.cell? ⟨P + 1, 1, none⟩ = some (.int .i64 b.to) := BxC.cell HQ4.out 1
                  have t2 : W4.cell? ⟨P + 1, 2, none⟩ = some (.slice A3 n3 c3) := BxC.cell HQ4.out 2
                  have t3 : W4.cell? ⟨P + 1, 3, none⟩ = some (.slice A4 n4 c4) := BxC.cell HQ4.out 3
                  have t4 : W4.cell? ⟨P + 1, 4, none⟩ = some (.string b.be) := BxC.cell HQ4.out 4
                  have t5 : W4.cell? ⟨P + 1, 5, none⟩ = some (.string b.af) := BxC.cell HQ4.out 5
                  have t6 : W4.cell? ⟨P + 1, 6, none⟩ = some (.string b.sc) := BxC.cell HQ4.out 6
                  have t7 : W4.cell? ⟨P + 1, 7, none⟩ = some (.string b.sr) := BxC.cell HQ4.out 7
                  have HB34 := Lib.hid hb34
                  clear hb34
                  go_wp2_with (refine wpList_store_rowTo rfl 27 _ _ rfl rfl w3.heap.size #[.int .i64 a.fr, .int .i64 b.to, .slice none 0 0, .slice none 0 0, .string a.be, .string b.af, .string ⟨#[]⟩, .string ⟨#[]⟩] rfl rfl 27 #[.int .i64 0, .int .i64 0, .slice none 0 0, .slice none 0 0, .string ⟨#[]⟩, .string ⟨#[]⟩, .string ⟨#[]⟩, .string ⟨#[]⟩] HXA.out (by kernel_rfl) rfl (by simp [Value.oneCell']) ?_)
                  clear hW4 hWA HXA p0 p1 p2 p3 p4 p5 p6 p7 q0 q1 q2 q3 q4 q5 q6 q7
                  have GA := Lib.hid (Dl.good (Dl.msg_ok HE1.out))
                  have GB := Lib.hid (Dl.good (Dl.msg_ok HE2.out))
                  refine (r37_merged a.ad b.rm b.ad a.rm A1 A4 A3 A2 n1 c1 n4 c4 n3 c3 n2 c2 W4 H14.out H44.out H34.out H24.out (by omega) (by omega) GA.out.vad GB.out.vad).mono ?_
                  rintro e w5 ⟨v5, rfl, hown, hb⟩
                  obtain ⟨n5, hn5⟩ : ∃ n5, (mrg (memB b.rm) (memB a.rm) a.ad b.ad).length = n5 := ⟨_, rfl⟩
                  rw [hn5] at hown
                  obtain ⟨A5, c5, rfl, hs5, hf5⟩ := own_sln hown
                  have HS5 := Lib.hid hs5
                  have HF5 := Lib.hid hf5
                  have HX5 := Lib.hid (HX4.out.next hb)
                  have z5 : w5.cell? ⟨w3.heap.size, 2, none⟩ = some (.slice none 0 0) := HX5.out.cell 2
                  have f5 : w5.frozen? ⟨w3.heap.size, 2, none⟩ = false := HX5.out.free 2
                  have HPL := Lib.hid HP3.out.lt
                  have HQL := Lib.hid HQ3.out.lt
                  have HRL := Lib.hid HR3.out.lt
                  have HW4S := Lib.hid HX4.out.lt
                  obtain ⟨W5, hW5⟩ : ∃ W5, w5.setCell ⟨w3.heap.size, 2, none⟩ (.slice A5 n5 c5) = W5 := ⟨_, rfl⟩
                  have HXX5 := Lib.hid (show BxC W5 w3.heap.size #[.int .i64 a.fr, .int .i64 b.to, .slice A5 n5 c5, .slice none 0 0, .string a.be, .string b.af, .string ⟨#[]⟩, .string ⟨#[]⟩] 27 from by rw [← hW5]; exact HX5.out.set (k := 2) (.slice A5 n5 c5))
                  have HP5 := Lib.hid (show BxC W5 P _ _ from by rw [← hW5]; exact (HP4.out.next hb).other (C := w3.heap.size) (k := 2) (by have := HPL.out; omega) (.slice A5 n5 c5))
                  have HQ5 := Lib.hid (show BxC W5 (P + 1) _ _ from by rw [← hW5]; exact (HQ4.out.next hb).other (C := w3.heap.size) (k := 2) (by have := HQL.out; omega) (.slice A5 n5 c5))
                  have HR5 := Lib.hid (show BxC W5 (P + 1 + 1) _ _ from by rw [← hW5]; exact (HR4.out.next hb).other (C := w3.heap.size) (k := 2) (by have := HRL.out; omega) (.slice A5 n5 c5))
                  have hbW : Below w3.heap.size W4 W5 := by rw [← hW5]; exact (hb.mono (Nat.le_of_lt HW4S.out)).setCell (p := ⟨w3.heap.size, 2, none⟩) (Nat.le_refl _) _
                  have H15 := Lib.hid (H13.out.kept (HB34.out.trans hbW) (Nat.le_refl _))
                  have H25 := Lib.hid (H23.out.kept (HB34.out.trans hbW) (Nat.le_refl _))
                  have H35 := Lib.hid (H33.out.kept (HB34.out.trans hbW) (Nat.le_refl _))
                  have H45 := Lib.hid (H43.out.kept (HB34.out.trans hbW) (Nat.le_refl _))
                  have HB35 := Lib.hid (HB34.out.trans hbW)
                  have HS55 := Lib.hid (show SlN W5 A5 n5 c5 _ from hs5.of_blocks (fun h0 ad he => by
                    rw [← hW5]
                    have h1 := (hf5 h0 ad he).1
                    have h2 := HW4S.out
                    exact heap_setCell_other _ _ _ _ (show ad.block ≠ w3.heap.size from by omega)))
                  have HL5 := Lib.hid (show 0 < n5 → ∀ ad, A5 = some ad → w3.heap.size < ad.block ∧ ad.block < W5.heap.size from fun h0 ad he => by
                    have h1 := hf5 h0 ad he
                    have h2 := HW4S.out
                    have h3 : W5.heap.size = w5.heap.size := by rw [← hW5]; simp
                    omega)
                  clear hown hb hs5 hf5 hbW s0 s1 s2 s3 s4 s5 s6 s7 t0 t1 t2 t3 t4 t5 t6 t7
                  have s0 : W5.cell? ⟨P, 0, none⟩ = some (.int .i64 a.fr) := BxC.cell HP5.out 0
                  have s1 : W5.cell? ⟨P, 1, none⟩ = some (.int .i64 a.to) := BxC.cell HP5.out 1
                  have s2 : W5.cell? ⟨P, 2, none⟩ = some (.slice A1 n1 c1) := BxC.cell HP5.out 2
                  have s3 : W5.cell? ⟨P, 3, none⟩ = some (.slice A2 n2 c2) := BxC.cell HP5.out 3
                  have s4 : W5.cell? ⟨P, 4, none⟩ = some (.string a.be) := BxC.cell HP5.out 4
                  have s5 : W5.cell? ⟨P, 5, none⟩ = some (.string a.af) := BxC.cell HP5.out 5
                  have s6 : W5.cell? ⟨P, 6, none⟩ = some (.string a.sc) := BxC.cell HP5.out 6
                  have s7 : W5.cell? ⟨P, 7, none⟩ = some (.string a.sr) := BxC.cell HP5.out 7
                  have t0 : W5.cell? ⟨P + 1, 0, none⟩ = some (.int .i64 b.fr) := BxC.cell HQ5.out 0
                  have t1 : W5.cell? ⟨P + 1, 1, none⟩ = some (.int .i64 b.to) := BxC.cell HQ5.out 1
                  have t2 : W5.cell? ⟨P + 1, 2, none⟩ = some (.slice A3 n3 c3) := BxC.cell HQ5.out 2
                  have t3 : W5.cell? ⟨P + 1, 3, none⟩ = some (.slice A4 n4 c4) := BxC.cell HQ5.out 3
                  have t4 : W5.cell? ⟨P + 1, 4, none⟩ = some (.string b.be) := BxC.cell HQ5.out 4
                  have t5 : W5.cell? ⟨P + 1, 5, none⟩ = some (.string b.af) := BxC.cell HQ5.out 5
                  have t6 : W5.cell? ⟨P + 1, 6, none⟩ = some (.string b.sc) := BxC.cell HQ5.out 6
                  have t7 : W5.cell? ⟨P + 1, 7, none⟩ = some (.string b.sr) := BxC.cell HQ5.out 7
                  go_wp2_with fail
                  refine (r37_merged a.rm b.ad b.rm a.ad A2 A3 A4 A1 n2 c2 n3 c3 n4 c4 n1 c1 W5 H25.out H35.out H45.out H15.out (by omega) (by omega) GA.out.vrm GB.out.vrm).mono ?_
                  rintro e w6 ⟨v6, rfl, hown, hb⟩
                  obtain ⟨n6, hn6⟩ : ∃ n6, (mrg (memB b.ad) (memB a.ad) a.rm b.rm).length = n6 := ⟨_, rfl⟩
                  rw [hn6] at hown
                  obtain ⟨A6, c6, rfl, hs6, hf6⟩ := own_sln hown
                  have HX6 := Lib.hid (HXX5.out.next hb)
                  have z6 : w6.cell? ⟨w3.heap.size, 3, none⟩ = some (.slice none 0 0) := HX6.out.cell 3
                  have f6 : w6.frozen? ⟨w3.heap.size, 3, none⟩ = false := HX6.out.free 3
                  obtain ⟨W6, hW6⟩ : ∃ W6, w6.setCell ⟨w3.heap.size, 3, none⟩ (.slice A6 n6 c6) = W6 := ⟨_, rfl⟩
                  have HXX6 := Lib.hid (show BxC W6 w3.heap.size #[.int .i64 a.fr, .int .i64 b.to, .slice A5 n5 c5, .slice A6 n6 c6, .string a.be, .string b.af, .string ⟨#[]⟩, .string ⟨#[]⟩] 27 from by rw [← hW6]; exact HX6.out.set (k := 3) (.slice A6 n6 c6))
                  have HR6 := Lib.hid (show BxC W6 (P + 1 + 1) _ _ from by rw [← hW6]; exact (HR5.out.next hb).other (C := w3.heap.size) (k := 3) (by have := HRL.out; omega) (.slice A6 n6 c6))
                  have hW5S := HXX5.out.lt
                  have hb36 : Below w3.heap.size w3 W6 := HB35.out.trans (by rw [← hW6]; exact (hb.mono (Nat.le_of_lt hW5S)).setCell (p := ⟨w3.heap.size, 3, none⟩) (Nat.le_refl _) _)
                  have HB36 := Lib.hid hb36
                  have HBB := Lib.hid (HB3.out.trans (hb36.mono (by have := HPL.out; omega)))
                  have HS65 := Lib.hid (show SlN W6 A5 n5 c5 _ from HS55.out.of_blocks (fun h0 ad he => by
                    have h1 := HL5.out h0 ad he
                    rw [← hW6, heap_setCell_other _ _ _ _ (show ad.block ≠ w3.heap.size from by omega)]
                    exact hb.block _ h1.2))
                  have HS66 := Lib.hid (show SlN W6 A6 n6 c6 _ from hs6.of_blocks (fun h0 ad he => by
                    rw [← hW6]
                    have h1 := (hf6 h0 ad he).1
                    exact heap_setCell_other _ _ _ _ (show ad.block ≠ w3.heap.size from by omega)))
                  have HE5 := Lib.hid (show 0 < n5 → ∀ ad, A5 = some ad → P + 1 + 1 < ad.block from fun h0 ad he => by have := (HL5.out h0 ad he).1; have := HRL.out; omega)
                  have HE6 := Lib.hid (show 0 < n6 → ∀ ad, A6 = some ad → P + 1 + 1 < ad.block from fun h0 ad he => by have := (hf6 h0 ad he).1; have := HRL.out; omega)
                  have HNN5 := Lib.hid hn5
                  have HNN6 := Lib.hid hn6
                  clear hown hb hs6 hf6 hb36 hW5S s0 s1 s2 s3 s4 s5 s6 s7 t0 t1 t2 t3 t4 t5 t6 t7 z5 f5 hW5 hn5 hn6
                  have u0 : W6.cell? ⟨w3.heap.size, 0, none⟩ = some (.int .i64 a.fr) := HXX6.out.cell 0
                  have u1 : W6.cell? ⟨w3.heap.size, 1, none⟩ = some (.int .i64 b.to) := HXX6.out.cell 1
                  have u2 : W6.cell? ⟨w3.heap.size, 2, none⟩ = some (.slice A5 n5 c5) := HXX6.out.cell 2
                  have u3 : W6.cell? ⟨w3.heap.size, 3, none⟩ = some (.slice A6 n6 c6) := HXX6.out.cell 3
                  have u4 : W6.cell? ⟨w3.heap.size, 4, none⟩ = some (.string a.be) := HXX6.out.cell 4
                  have u5' : W6.cell? ⟨w3.heap.size, 5, none⟩ = some (.string b.af) := HXX6.out.cell 5
                  have u6 : W6.cell? ⟨w3.heap.size, 6, none⟩ = some (.string ⟨#[]⟩) := HXX6.out.cell 6
                  have u7 : W6.cell? ⟨w3.heap.size, 7, none⟩ = some (.string ⟨#[]⟩) := HXX6.out.cell 7
                  go_wp2_with (refine wpList_store_rowTo rfl 27 _ _ rfl rfl (P + 1 + 1) #[.int .i64 a.fr, .int .i64 b.to, .slice A5 n5 c5, .slice A6 n6 c6, .string a.be, .string b.af, .string ⟨#[]⟩, .string ⟨#[]⟩] rfl rfl 27 (Dl.zero.arr (.slice none 0 0) (.slice none 0 0)) HR6.out (by kernel_rfl) rfl (by simp [Value.oneCell']) ?_)
                  have HRZ := Lib.hid (show BxC (W6.setRow (P + 1 + 1) #[.int .i64 a.fr, .int .i64 b.to, .slice A5 n5 c5, .slice A6 n6 c6, .string a.be, .string b.af, .string ⟨#[]⟩, .string ⟨#[]⟩]) (P + 1 + 1) #[.int .i64 a.fr, .int .i64 b.to, .slice A5 n5 c5, .slice A6 n6 c6, .string a.be, .string b.af, .string ⟨#[]⟩, .string ⟨#[]⟩] 27 from setRow_heap _ _ _ _ _ _ HR6.out)
                  have HBZ := Lib.hid (below_setRow HBB.out (g := P + 1 + 1) (by omega) #[.int .i64 a.fr, .int .i64 b.to, .slice A5 n5 c5, .slice A6 n6 c6, .string a.be, .string b.af, .string ⟨#[]⟩, .string ⟨#[]⟩])
                  have y0 : (W6.setRow (P + 1 + 1) #[.int .i64 a.fr, .int .i64 b.to, .slice A5 n5 c5, .slice A6 n6 c6, .string a.be, .string b.af, .string ⟨#[]⟩, .string ⟨#[]⟩]).cell? ⟨P + 1 + 1, 0, none⟩ = some (.int .i64 a.fr) := HRZ.out.cell 0
                  have y1 : (W6.setRow (P + 1 + 1) #[.int .i64 a.fr, .int .i64 b.to, .slice A5 n5 c5, .slice A6 n6 c6, .string a.be, .string b.af, .string ⟨#[]⟩, .string ⟨#[]⟩]).cell? ⟨P + 1 + 1, 1, none⟩ = some (.int .i64 b.to) := HRZ.out.cell 1
                  have y2 : (W6.setRow (P + 1 + 1) #[.int .i64 a.fr, .int .i64 b.to, .slice A5 n5 c5, .slice A6 n6 c6, .string a.be, .string b.af, .string ⟨#[]⟩, .string ⟨#[]⟩]).cell? ⟨P + 1 + 1, 2, none⟩ = some (.slice A5 n5 c5) := HRZ.out.cell 2
                  have y3 : (W6.setRow (P + 1 + 1) #[.int .i64 a.fr, .int .i64 b.to, .slice A5 n5 c5, .slice A6 n6 c6, .string a.be, .string b.af, .string ⟨#[]⟩, .string ⟨#[]⟩]).cell? ⟨P + 1 + 1, 3, none⟩ = some (.slice A6 n6 c6) := HRZ.out.cell 3
                  have y4 : (W6.setRow (P + 1 + 1) #[.int .i64 a.fr, .int .i64 b.to, .slice A5 n5 c5, .slice A6 n6 c6, .string a.be, .string b.af, .string ⟨#[]⟩, .string ⟨#[]⟩]).cell? ⟨P + 1 + 1, 4, none⟩ = some (.string a.be) := HRZ.out.cell 4
                  have y5 : (W6.setRow (P + 1 + 1) #[.int .i64 a.fr, .int .i64 b.to, .slice A5 n5 c5, .slice A6 n6 c6, .string a.be, .string b.af, .string ⟨#[]⟩, .string ⟨#[]⟩]).cell? ⟨P + 1 + 1, 5, none⟩ = some (.string b.af) := HRZ.out.cell 5
                  have y6 : (W6.setRow (P + 1 + 1) #[.int .i64 a.fr, .int .i64 b.to, .slice A5 n5 c5, .slice A6 n6 c6, .string a.be, .string b.af, .string ⟨#[]⟩, .string ⟨#[]⟩]).cell? ⟨P + 1 + 1, 6, none⟩ = some (.string ⟨#[]⟩) := HRZ.out.cell 6
                  have y7 : (W6.setRow (P + 1 + 1) #[.int .i64 a.fr, .int .i64 b.to, .slice A5 n5 c5, .slice A6 n6 c6, .string a.be, .string b.af, .string ⟨#[]⟩, .string ⟨#[]⟩]).cell? ⟨P + 1 + 1, 7, none⟩ = some (.string ⟨#[]⟩) := HRZ.out.cell 7
                  exact bodyPost_ret (v := .tuple #[.agg #[.int .i64 a.fr, .int .i64 b.to, .slice A5 n5 c5, .slice A6 n6 c6, .string a.be, .string b.af, .string ⟨#[]⟩, .string ⟨#[]⟩], .int .i64 0]) (by simp [results, Try.results12, go_sem, y0, y1, y2, y3, y4, y5, y6, y7]) rfl ⟨A5, n5, c5, A6, n6, c6, by rw [HJ.out]; rfl, by rw [HJ.out]; exact HS65.out.of_blocks (fun h0 ad he => setRow_other _ _ _ _ (by have := HE5.out h0 ad he; omega)), by rw [HJ.out]; exact HS66.out.of_blocks (fun h0 ad he => setRow_other _ _ _ _ (by have := HE6.out h0 ad he; omega)), (fun h0 ad he => by have := HE5.out h0 ad he; have := HPE.out; omega), (fun h0 ad he => by have := HE6.out h0 ad he; have := HPE.out; omega), by rw [HPE.out]; exact HBZ.out⟩
        · have hs2 : (a.af.toList == b.be.toList) = false := by rw [beq_eq_false_iff_ne]; exact fun h => hs (toList_inj h)
          have HJ := Lib.hid (show jn a b = (Dl.zero, 1) from by unfold jn; rw [if_neg (by rw [HE1.out]; simp), if_neg (by rw [HE2.out]; simp), if_neg (by rw [HT.out]; simp), if_pos hs])
          clear hs
          go_wp2_with (refine wpList_store_rowTo rfl 27 _ _ rfl rfl (P + 1 + 1) (Dl.zero.arr (.slice none 0 0) (.slice none 0 0)) rfl rfl 27 (Dl.zero.arr (.slice none 0 0) (.slice none 0 0)) HRB.out (by kernel_rfl) rfl (Dl.zero.one _ _ _ _ _ _) ?_)
          have HRZ := Lib.hid (show BxC _ (P + 1 + 1) (Dl.zero.arr (.slice none 0 0) (.slice none 0 0)) 27 from setRow_heap _ _ _ (Dl.zero.arr (.slice none 0 0) (.slice none 0 0)) _ _ HRB.out)
          have HBZ := Lib.hid (below_setRow HBB.out (g := P + 1 + 1) (by omega) (Dl.zero.arr (.slice none 0 0) (.slice none 0 0)))
          go_wp2
          have y0 : (w2.setRow (P + 1 + 1) (Dl.zero.arr (.slice none 0 0) (.slice none 0 0))).cell? ⟨P + 1 + 1, 0, none⟩ = some (.int .i64 0) := HRZ.out.cell 0
          have y1 : (w2.setRow (P + 1 + 1) (Dl.zero.arr (.slice none 0 0) (.slice none 0 0))).cell? ⟨P + 1 + 1, 1, none⟩ = some (.int .i64 0) := HRZ.out.cell 1
          have y2 : (w2.setRow (P + 1 + 1) (Dl.zero.arr (.slice none 0 0) (.slice none 0 0))).cell? ⟨P + 1 + 1, 2, none⟩ = some (.slice none 0 0) := HRZ.out.cell 2
          have y3 : (w2.setRow (P + 1 + 1) (Dl.zero.arr (.slice none 0 0) (.slice none 0 0))).cell? ⟨P + 1 + 1, 3, none⟩ = some (.slice none 0 0) := HRZ.out.cell 3
          have y4 : (w2.setRow (P + 1 + 1) (Dl.zero.arr (.slice none 0 0) (.slice none 0 0))).cell? ⟨P + 1 + 1, 4, none⟩ = some (.string ⟨#[]⟩) := HRZ.out.cell 4
          have y5 : (w2.setRow (P + 1 + 1) (Dl.zero.arr (.slice none 0 0) (.slice none 0 0))).cell? ⟨P + 1 + 1, 5, none⟩ = some (.string ⟨#[]⟩) := HRZ.out.cell 5
          have y6 : (w2.setRow (P + 1 + 1) (Dl.zero.arr (.slice none 0 0) (.slice none 0 0))).cell? ⟨P + 1 + 1, 6, none⟩ = some (.string ⟨#[]⟩) := HRZ.out.cell 6
          have y7 : (w2.setRow (P + 1 + 1) (Dl.zero.arr (.slice none 0 0) (.slice none 0 0))).cell? ⟨P + 1 + 1, 7, none⟩ = some (.string ⟨#[]⟩) := HRZ.out.cell 7
          exact bodyPost_ret (v := .tuple #[.agg #[.int .i64 0, .int .i64 0, .slice none 0 0, .slice none 0 0, .string ⟨#[]⟩, .string ⟨#[]⟩, .string ⟨#[]⟩, .string ⟨#[]⟩], .int .i64 1]) (by simp [results, Try.results12, go_sem, y0, y1, y2, y3, y4, y5, y6, y7]) rfl ⟨none, 0, 0, none, 0, 0, by rw [HJ.out]; rfl, by rw [HJ.out]; exact SlN.nil _ _ (by omega) _, by rw [HJ.out]; exact SlN.nil _ _ (by omega) _, (fun h0 => by simp at h0), (fun h0 => by simp at h0), by rw [HPE.out]; exact HBZ.out⟩
      · have hd : (a.to != b.fr) = true := by simpa using ht
        have HJ := Lib.hid (show jn a b = (Dl.zero, 21) from by unfold jn; rw [if_neg (by rw [HE1.out]; simp), if_neg (by rw [HE2.out]; simp), if_pos ht])
        clear ht
        go_wp2_with (refine wpList_store_rowTo rfl 27 _ _ rfl rfl (P + 1 + 1) (Dl.zero.arr (.slice none 0 0) (.slice none 0 0)) rfl rfl 27 (Dl.zero.arr (.slice none 0 0) (.slice none 0 0)) HRB.out (by kernel_rfl) rfl (Dl.zero.one _ _ _ _ _ _) ?_)
        have HRZ := Lib.hid (show BxC _ (P + 1 + 1) (Dl.zero.arr (.slice none 0 0) (.slice none 0 0)) 27 from setRow_heap _ _ _ (Dl.zero.arr (.slice none 0 0) (.slice none 0 0)) _ _ HRB.out)
        have HBZ := Lib.hid (below_setRow HBB.out (g := P + 1 + 1) (by omega) (Dl.zero.arr (.slice none 0 0) (.slice none 0 0)))
        go_wp2
        have y0 : (w2.setRow (P + 1 + 1) (Dl.zero.arr (.slice none 0 0) (.slice none 0 0))).cell? ⟨P + 1 + 1, 0, none⟩ = some (.int .i64 0) := HRZ.out.cell 0
        have y1 : (w2.setRow (P + 1 + 1) (Dl.zero.arr (.slice none 0 0) (.slice none 0 0))).cell? ⟨P + 1 + 1, 1, none⟩ = some (.int .i64 0) := HRZ.out.cell 1
        have y2 : (w2.setRow (P + 1 + 1) (Dl.zero.arr (.slice none 0 0) (.slice none 0 0))).cell? ⟨P + 1 + 1, 2, none⟩ = some (.slice none 0 0) := HRZ.out.cell 2
        have y3 : (w2.setRow (P + 1 + 1) (Dl.zero.arr (.slice none 0 0) (.slice none 0 0))).cell? ⟨P + 1 + 1, 3, none⟩ = some (.slice none 0 0) := HRZ.out.cell 3
        have y4 : (w2.setRow (P + 1 + 1) (Dl.zero.arr (.slice none 0 0) (.slice none 0 0))).cell? ⟨P + 1 + 1, 4, none⟩ = some (.string ⟨#[]⟩) := HRZ.out.cell 4
        have y5 : (w2.setRow (P + 1 + 1) (Dl.zero.arr (.slice none 0 0) (.slice none 0 0))).cell? ⟨P + 1 + 1, 5, none⟩ = some (.string ⟨#[]⟩) := HRZ.out.cell 5
        have y6 : (w2.setRow (P + 1 + 1) (Dl.zero.arr (.slice none 0 0) (.slice none 0 0))).cell? ⟨P + 1 + 1, 6, none⟩ = some (.string ⟨#[]⟩) := HRZ.out.cell 6
        have y7 : (w2.setRow (P + 1 + 1) (Dl.zero.arr (.slice none 0 0) (.slice none 0 0))).cell? ⟨P + 1 + 1, 7, none⟩ = some (.string ⟨#[]⟩) := HRZ.out.cell 7
        exact bodyPost_ret (v := .tuple #[.agg #[.int .i64 0, .int .i64 0, .slice none 0 0, .slice none 0 0, .string ⟨#[]⟩, .string ⟨#[]⟩, .string ⟨#[]⟩, .string ⟨#[]⟩], .int .i64 21]) (by simp [results, Try.results12, go_sem, y0, y1, y2, y3, y4, y5, y6, y7]) rfl ⟨none, 0, 0, none, 0, 0, by rw [HJ.out]; rfl, by rw [HJ.out]; exact SlN.nil _ _ (by omega) _, by rw [HJ.out]; exact SlN.nil _ _ (by omega) _, (fun h0 => by simp at h0), (fun h0 => by simp at h0), by rw [HPE.out]; exact HBZ.out⟩
    · have hd : (e2 != 0) = true := by simpa using he
      have HJ := Lib.hid (show jn a b = (Dl.zero, e2) from by unfold jn; rw [if_neg (by rw [HE1.out]; simp), if_pos (by rw [hr]; exact he), hr])
      have HRB := Lib.hid HR2.out
      have HBB := Lib.hid (HB0.out.trans (HB2.out.mono (by have := HW0.out; omega)))
      go_wp2_with (refine wpList_store_rowTo rfl 27 _ _ rfl rfl (P + 1 + 1) (Dl.zero.arr (.slice none 0 0) (.slice none 0 0)) rfl rfl 27 (Dl.zero.arr (.slice none 0 0) (.slice none 0 0)) HRB.out (by kernel_rfl) rfl (Dl.zero.one _ _ _ _ _ _) ?_)
      have HRZ := Lib.hid (show BxC _ (P + 1 + 1) (Dl.zero.arr (.slice none 0 0) (.slice none 0 0)) 27 from setRow_heap _ _ _ (Dl.zero.arr (.slice none 0 0) (.slice none 0 0)) _ _ HRB.out)
      have HBZ := Lib.hid (below_setRow HBB.out (g := P + 1 + 1) (by omega) (Dl.zero.arr (.slice none 0 0) (.slice none 0 0)))
      go_wp2
      have y0 : (w2.setRow (P + 1 + 1) (Dl.zero.arr (.slice none 0 0) (.slice none 0 0))).cell? ⟨P + 1 + 1, 0, none⟩ = some (.int .i64 0) := HRZ.out.cell 0
      have y1 : (w2.setRow (P + 1 + 1) (Dl.zero.arr (.slice none 0 0) (.slice none 0 0))).cell? ⟨P + 1 + 1, 1, none⟩ = some (.int .i64 0) := HRZ.out.cell 1
      have y2 : (w2.setRow (P + 1 + 1) (Dl.zero.arr (.slice none 0 0) (.slice none 0 0))).cell? ⟨P + 1 + 1, 2, none⟩ = some (.slice none 0 0) := HRZ.out.cell 2
      have y3 : (w2.setRow (P + 1 + 1) (Dl.zero.arr (.slice none 0 0) (.slice none 0 0))).cell? ⟨P + 1 + 1, 3, none⟩ = some (.slice none 0 0) := HRZ.out.cell 3
      have y4 : (w2.setRow (P + 1 + 1) (Dl.zero.arr (.slice none 0 0) (.slice none 0 0))).cell? ⟨P + 1 + 1, 4, none⟩ = some (.string ⟨#[]⟩) := HRZ.out.cell 4
      have y5 : (w2.setRow (P + 1 + 1) (Dl.zero.arr (.slice none 0 0) (.slice none 0 0))).cell? ⟨P + 1 + 1, 5, none⟩ = some (.string ⟨#[]⟩) := HRZ.out.cell 5
      have y6 : (w2.setRow (P + 1 + 1) (Dl.zero.arr (.slice none 0 0) (.slice none 0 0))).cell? ⟨P + 1 + 1, 6, none⟩ = some (.string ⟨#[]⟩) := HRZ.out.cell 6
      have y7 : (w2.setRow (P + 1 + 1) (Dl.zero.arr (.slice none 0 0) (.slice none 0 0))).cell? ⟨P + 1 + 1, 7, none⟩ = some (.string ⟨#[]⟩) := HRZ.out.cell 7
      exact bodyPost_ret (v := .tuple #[.agg #[.int .i64 0, .int .i64 0, .slice none 0 0, .slice none 0 0, .string ⟨#[]⟩, .string ⟨#[]⟩, .string ⟨#[]⟩, .string ⟨#[]⟩], .int .i64 e2]) (by simp [results, Try.results12, go_sem, y0, y1, y2, y3, y4, y5, y6, y7]) rfl ⟨none, 0, 0, none, 0, 0, by rw [HJ.out]; rfl, by rw [HJ.out]; exact SlN.nil _ _ (by omega) _, by rw [HJ.out]; exact SlN.nil _ _ (by omega) _, (fun h0 => by simp at h0), (fun h0 => by simp at h0), by rw [HPE.out]; exact HBZ.out⟩
  · have hd : (e1 != 0) = true := by simpa using he
    have HJ := Lib.hid (show jn a b = (Dl.zero, e1) from by unfold jn; rw [if_pos (by rw [hr]; exact he), hr])
    have HRB := Lib.hid HR1.out
    have HBB := Lib.hid (HB0.out.trans (HB1.out.mono (by have := HW0.out; omega)))
    go_wp2_with (refine wpList_store_rowTo rfl 27 _ _ rfl rfl (P + 1 + 1) (Dl.zero.arr (.slice none 0 0) (.slice none 0 0)) rfl rfl 27 (Dl.zero.arr (.slice none 0 0) (.slice none 0 0)) HRB.out (by kernel_rfl) rfl (Dl.zero.one _ _ _ _ _ _) ?_)
    have HRZ := Lib.hid (show BxC _ (P + 1 + 1) (Dl.zero.arr (.slice none 0 0) (.slice none 0 0)) 27 from setRow_heap _ _ _ (Dl.zero.arr (.slice none 0 0) (.slice none 0 0)) _ _ HRB.out)
    have HBZ := Lib.hid (below_setRow HBB.out (g := P + 1 + 1) (by omega) (Dl.zero.arr (.slice none 0 0) (.slice none 0 0)))
    go_wp2
    have y0 : (w1.setRow (P + 1 + 1) (Dl.zero.arr (.slice none 0 0) (.slice none 0 0))).cell? ⟨P + 1 + 1, 0, none⟩ = some (.int .i64 0) := HRZ.out.cell 0
    have y1 : (w1.setRow (P + 1 + 1) (Dl.zero.arr (.slice none 0 0) (.slice none 0 0))).cell? ⟨P + 1 + 1, 1, none⟩ = some (.int .i64 0) := HRZ.out.cell 1
    have y2 : (w1.setRow (P + 1 + 1) (Dl.zero.arr (.slice none 0 0) (.slice none 0 0))).cell? ⟨P + 1 + 1, 2, none⟩ = some (.slice none 0 0) := HRZ.out.cell 2
    have y3 : (w1.setRow (P + 1 + 1) (Dl.zero.arr (.slice none 0 0) (.slice none 0 0))).cell? ⟨P + 1 + 1, 3, none⟩ = some (.slice none 0 0) := HRZ.out.cell 3
    have y4 : (w1.setRow (P + 1 + 1) (Dl.zero.arr (.slice none 0 0) (.slice none 0 0))).cell? ⟨P + 1 + 1, 4, none⟩ = some (.string ⟨#[]⟩) := HRZ.out.cell 4
    have y5 : (w1.setRow (P + 1 + 1) (Dl.zero.arr (.slice none 0 0) (.slice none 0 0))).cell? ⟨P + 1 + 1, 5, none⟩ = some (.string ⟨#[]⟩) := HRZ.out.cell 5
    have y6 : (w1.setRow (P + 1 + 1) (Dl.zero.arr (.slice none 0 0) (.slice none 0 0))).cell? ⟨P + 1 + 1, 6, none⟩ = some (.string ⟨#[]⟩) := HRZ.out.cell 6
    have y7 : (w1.setRow (P + 1 + 1) (Dl.zero.arr (.slice none 0 0) (.slice none 0 0))).cell? ⟨P + 1 + 1, 7, none⟩ = some (.string ⟨#[]⟩) := HRZ.out.cell 7
    exact bodyPost_ret (v := .tuple #[.agg #[.int .i64 0, .int .i64 0, .slice none 0 0, .slice none 0 0, .string ⟨#[]⟩, .string ⟨#[]⟩, .string ⟨#[]⟩, .string ⟨#[]⟩], .int .i64 e1]) (by simp [results, Try.results12, go_sem, y0, y1, y2, y3, y4, y5, y6, y7]) rfl ⟨none, 0, 0, none, 0, 0, by rw [HJ.out]; rfl, by rw [HJ.out]; exact SlN.nil _ _ (by omega) _, by rw [HJ.out]; exact SlN.nil _ _ (by omega) _, (fun h0 => by simp at h0), (fun h0 => by simp at h0), by rw [HPE.out]; exact HBZ.out⟩
theorem r37_Join (a b : Dl) (A1 A2 A3 A4 : Option Addr) (n1 c1 n2 c2 n3 c3 n4 c4 : Nat) (w : World) (h1 : SlN w A1 n1 c1 a.ad) (h2 : SlN w A2 n2 c2 a.rm) (h3 : SlN w A3 n3 c3 b.ad) (h4 : SlN w A4 n4 c4 b.rm) (g1 : n1 ≤ 400000) (g2 : n2 ≤ 400000) (g3 : n3 ≤ 400000) (g4 : n4 ≤ 400000) (za : SzL a.str) (zb : SzL b.str) :
    Calls Try.prog 12 #[.agg (a.arr (.slice A1 n1 c1) (.slice A2 n2 c2)), .agg (b.arr (.slice A3 n3 c3) (.slice A4 n4 c4))] w (RetDl (jn a b) w) :=
  (r37_JoinF a b A1 A2 A3 A4 n1 c1 n2 c2 n3 c3 n4 c4 w h1 h2 h3 h4 g1 g2 g3 g4 za zb).mono fun _ _ h => h.out
end Go.Proofs.Ytelhpdlegjgjjaa

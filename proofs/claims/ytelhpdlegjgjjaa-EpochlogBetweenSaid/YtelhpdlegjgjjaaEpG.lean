/- What a delta's message is; walk: epochlog.Message. -/
import Derived.Test.YtelhpdlegjgjjaaEpF
import Derived.Test.YtelhpdlegjgjjaaGst
set_option linter.unusedVariables false
set_option linter.unusedSimpArgs false
namespace Go.Proofs.Ytelhpdlegjgjjaa
open Go.RowKit Go.Shelf

def txt (a : ByteArray) : It := .mk 1 ⟨#[]⟩ a []
def lstI (l : List It) : It := .mk 2 ⟨#[]⟩ ⟨#[]⟩ l
/-- The item of a delta. -/
def Dl.it (d : Dl) : It := lstI [txt ⟨#[100, 101, 108, 116, 97]⟩, natIt (bstr (encN d.fr.toNat)), natIt (bstr (encN d.to.toNat)), lstI (d.ad.map natIt), lstI (d.rm.map natIt), natIt d.be, natIt d.af]
/-- What Message returns. -/
def Dl.msg (d : Dl) : ByteArray × Int := if d.form = 0 then encS d.it else (⟨#[]⟩, d.form)
theorem Dl.form_ok {d : Dl} (h : d.form = 0) : d.okN = true ∧ ¬ d.rng ∧ d.twice = false ∧ d.low = false := by
  unfold Dl.form at h
  split at h
  · cases h
  · split at h
    · cases h
    · split at h
      · cases h
      · split at h
        · cases h
        · rename_i h1 h2 h3 h4
          exact ⟨by simpa using h1, h2, by simpa using h3, by simpa using h4⟩
theorem below_alloc {W W' : World} {o : Obj} (h : W' = W.alloc o) : Below W.heap.size W W' := by rw [h]; exact (Below.refl _ _).alloc (Nat.le_refl _) _
theorem bxc_alloc {W W' : World} {cs : Array Value} {T : TypeId} (h : W' = W.alloc (.cells cs T)) : BxC W' W.heap.size cs T := by rw [h]; exact BxC.new _ _ _
theorem set_cons_9 {α : Type} (a0 a1 a2 a3 a4 a5 a6 a7 a8 : α) (l : List α) (n : Nat) (v : α) : (a0 :: a1 :: a2 :: a3 :: a4 :: a5 :: a6 :: a7 :: a8 :: l).set (n + 9) v = a0 :: a1 :: a2 :: a3 :: a4 :: a5 :: a6 :: a7 :: a8 :: l.set n v := rfl
theorem natIt_weight (l : List ByteArray) (h : ∀ s ∈ l, s.size ≤ 128) : Its.weight (l.map natIt) ≤ l.length * 139 := by
  induction l with
  | nil => simp [Its.weight]
  | cons a l ih =>
    have h1 := ih (fun s hs => h s (List.mem_cons_of_mem _ hs))
    have h2 := h a List.mem_cons_self
    have e1 : (⟨#[]⟩ : ByteArray).size = 0 := rfl
    simp only [List.map_cons, Its.weight, natIt, It.weight, List.length_cons] at h1 ⊢
    omega
theorem Dl.it_weight {d : Dl} (h : d.form = 0) (hn : d.ad.length ≤ 400000) (hn' : d.rm.length ≤ 400000) : d.it.weight ≤ 1000000000 ∧ Its.nodes d.it.list ≤ 1000000000000 := by
  obtain ⟨hv, hr, _⟩ := d.form_ok h
  have g1 := natIt_weight d.ad (fun s h => size_valid (d.okN_ad hv s h))
  have g2 := natIt_weight d.rm (fun s h => size_valid (d.okN_rm hv s h))
  have g3 := size_valid (d.okN_mem hv (y := d.be) (by simp))
  have g4 := size_valid (d.okN_mem hv (y := d.af) (by simp))
  have e0 : (⟨#[]⟩ : ByteArray).size = 0 := rfl
  have e1 : (⟨#[100, 101, 108, 116, 97]⟩ : ByteArray).size = 5 := rfl
  have h1 : d.fr.toNat ≤ 4096 := by unfold Dl.rng at hr; omega
  have h2 : d.to.toNat ≤ 4096 := by unfold Dl.rng at hr; omega
  have n1 : (encN d.fr.toNat).length ≤ 8 := encN_length_le.2 (by omega)
  have n2 : (encN d.to.toNat).length ≤ 8 := encN_length_le.2 (by omega)
  have hd1 := natIt_nodes d.ad
  have hd2 := natIt_nodes d.rm
  constructor
  · generalize hq : List.map natIt d.ad = q at *
    generalize hq' : List.map natIt d.rm = q' at *
    simp only [Dl.it, lstI, txt, hq, hq', It.weight, Its.weight]
    simp only [natIt, It.weight, Its.weight, bstr_size, e0, e1]
    omega
  · generalize hq : List.map natIt d.ad = q at *
    generalize hq' : List.map natIt d.rm = q' at *
    simp only [Dl.it, lstI, txt, hq, hq', It.list, It.nodes, Its.nodes]
    simp only [natIt, It.nodes, Its.nodes]
    omega
/-- Seven items in a block; the fifth is a list. -/
theorem row7 {w : World} {T : TypeId} {fr : Nat × Nat} {b : Nat} {k0 k1 k2 k3 k4 k5 k6 : Int} {n0 n1 n2 n3 n4 n5 n6 t0 t1 t2 t3 t4 t5 t6 : ByteArray} {A3 A4 : Option Addr} {l3 c3 l4 c4 : Nat} {i3 i4 : List It} {ok3 ok4 : Nat → Prop}
    (hb : w.heap[b]? = some (.cells #[.int .i64 k0, .string n0, .string t0, .slice none 0 0, .int .i64 k1, .string n1, .string t1, .slice none 0 0, .int .i64 k2, .string n2, .string t2, .slice none 0 0, .int .i64 k3, .string n3, .string t3, .slice A3 l3 c3, .int .i64 k4, .string n4, .string t4, .slice A4 l4 c4, .int .i64 k5, .string n5, .string t5, .slice none 0 0, .int .i64 k6, .string n6, .string t6, .slice none 0 0] T fr))
    (h3 : SlAt w ok3 A3 l3 c3 i3) (h4 : SlAt w ok4 A4 l4 c4 i4) :
    SlAt w (fun _ => True) (some ⟨b, 0, none⟩) 7 7 [.mk k0 n0 t0 [], .mk k1 n1 t1 [], .mk k2 n2 t2 [], .mk k3 n3 t3 i3, .mk k4 n4 t4 i4, .mk k5 n5 t5 [], .mk k6 n6 t6 []] := by
  have hc := fun k => Lib.cell_of_heap hb (j := k)
  refine ⟨rfl, Nat.le_refl _, by omega, b, 0, fun _ => ⟨rfl, trivial⟩, ?_⟩
  exact ⟨CellsAt.mk' (hc 0) (hc 1) (hc 2) (hc 3) (SlAt.nil _ _), CellsAt.mk' (hc 4) (hc 5) (hc 6) (hc 7) (SlAt.nil _ _), CellsAt.mk' (hc 8) (hc 9) (hc 10) (hc 11) (SlAt.nil _ _), CellsAt.mk' (hc 12) (hc 13) (hc 14) (hc 15) (h3.low (fun _ _ => trivial)), CellsAt.mk' (hc 16) (hc 17) (hc 18) (hc 19) (h4.low (fun _ _ => trivial)), CellsAt.mk' (hc 20) (hc 21) (hc 22) (hc 23) (SlAt.nil _ _), CellsAt.mk' (hc 24) (hc 25) (hc 26) (hc 27) (SlAt.nil _ _), trivial⟩
set_option maxRecDepth 100000 in
set_option maxHeartbeats 4000000 in
theorem ep_Message (d : Dl) (A A' : Option Addr) (n c n' c' : Nat) (w : World) (hs : SlN w A n c d.ad) (hs' : SlN w A' n' c' d.rm) (hn : n ≤ 400000) (hn' : n' ≤ 400000) (hz : SzL d.str) : Calls Try.prog 9 #[.agg (d.arr (.slice A n c) (.slice A' n' c'))] w (RetSE d.msg w) := by
  obtain ⟨W0, hW0⟩ : ∃ W0, w.alloc (.cells (d.arr (.slice A n c) (.slice A' n' c')) 27) = W0 := ⟨_, rfl⟩
  have HX0 := Lib.hid (show BxC W0 w.heap.size (d.arr (.slice A n c) (.slice A' n' c')) 27 from by rw [← hW0]; exact BxC.new w _ _)
  have HB0 := Lib.hid (show Below w.heap.size w W0 from by rw [← hW0]; exact (Below.refl _ _).alloc (Nat.le_refl _) _)
  have HW0 := Lib.hid (show w.heap.size + 1 = W0.heap.size from by rw [← hW0]; simp)
  have HS := Lib.hid (hs.kept HB0.out (Nat.le_refl _))
  have HS' := Lib.hid (hs'.kept HB0.out (Nat.le_refl _))
  have HZ := Lib.hid hz
  have hc := hs.2.1
  have hc2 := hs.2.2.1
  have hc' := hs'.2.1
  have hc2' := hs'.2.2.1
  have HN := Lib.hid hs.1
  have HN' := Lib.hid hs'.1
  have x0 : W0.cell? ⟨w.heap.size, 0, none⟩ = some (.int .i64 d.fr) := HX0.out.cell 0
  have x1 : W0.cell? ⟨w.heap.size, 1, none⟩ = some (.int .i64 d.to) := HX0.out.cell 1
  have x2 : W0.cell? ⟨w.heap.size, 2, none⟩ = some (.slice A n c) := HX0.out.cell 2
  have x3 : W0.cell? ⟨w.heap.size, 3, none⟩ = some (.slice A' n' c') := HX0.out.cell 3
  have x4 : W0.cell? ⟨w.heap.size, 4, none⟩ = some (.string d.be) := HX0.out.cell 4
  have x5 : W0.cell? ⟨w.heap.size, 5, none⟩ = some (.string d.af) := HX0.out.cell 5
  have x6 : W0.cell? ⟨w.heap.size, 6, none⟩ = some (.string d.sc) := HX0.out.cell 6
  have x7 : W0.cell? ⟨w.heap.size, 7, none⟩ = some (.string d.sr) := HX0.out.cell 7
  have HC := Lib.hid (ep_form d A A' n c n' c' W0 HS.out HS'.out hn hn' hz)
  clear hs hs' hz
  unfold Dl.arr at hW0 ⊢
  go_enter Try.func9, Try.ntmps9
  go_wp2_with fail
  refine (show Calls _ _ _ _ _ from HC.out).mono ?_
  rintro e w1 ⟨rfl, hb⟩
  have HX1 := Lib.hid (HX0.out.kept hb HX0.out.lt)
  have HB1 := Lib.hid (HB0.out.trans (hb.mono HB0.out.size))
  have HSA := Lib.hid (HS.out.kept hb (Nat.le_refl _))
  have HSR := Lib.hid (HS'.out.kept hb (Nat.le_refl _))
  clear hb x0 x1 x2 x3 x4 x5 x6 x7 hW0 HC
  obtain ⟨F, hF⟩ : ∃ F, d.form = F := ⟨_, rfl⟩
  rw [hF]
  by_cases h0 : F = 0
  · subst h0
    have HFO := Lib.hid hF
    have HM := Lib.hid (show d.msg = encS d.it from by unfold Dl.msg; rw [if_pos hF])
    obtain ⟨hv, hr, _⟩ := d.form_ok hF
    have hwn := d.it_weight hF (by rw [HN.out]; exact hn) (by rw [HN'.out]; exact hn')
    obtain ⟨N, hN⟩ : ∃ N, d.fr.toNat = N := ⟨_, rfl⟩
    obtain ⟨T, hT⟩ : ∃ T, d.to.toNat = T := ⟨_, rfl⟩
    unfold Dl.rng at hr
    have hN4 : N ≤ 4096 := by omega
    have hT4 : T ≤ 4096 := by omega
    have hNe : d.fr = (N : Int) := by omega
    have hTe : d.to = (T : Int) := by omega
    have HIE := Lib.hid (show It.mk 2 ⟨#[]⟩ ⟨#[]⟩ [.mk 1 ⟨#[]⟩ ⟨#[100, 101, 108, 116, 97]⟩ [], .mk 0 (bstr (encN N)) ⟨#[]⟩ [], .mk 0 (bstr (encN T)) ⟨#[]⟩ [], .mk 2 ⟨#[]⟩ ⟨#[]⟩ (d.ad.map natIt), .mk 2 ⟨#[]⟩ ⟨#[]⟩ (d.rm.map natIt), .mk 0 d.be ⟨#[]⟩ [], .mk 0 d.af ⟨#[]⟩ []] = d.it from by rw [← hN, ← hT]; rfl)
    have HWE := Lib.hid hwn.1
    have HNO := Lib.hid hwn.2
    rw [← HIE.out] at HWE HNO
    have b0 : w1.drew.cell? ⟨w.heap.size, 0, none⟩ = some (.int .i64 (N : Int)) := (HX1.out.cell 0).trans (by rw [← hNe]; rfl)
    have b1 : w1.drew.cell? ⟨w.heap.size, 1, none⟩ = some (.int .i64 (T : Int)) := (HX1.out.cell 1).trans (by rw [← hTe]; rfl)
    have b2 : w1.drew.cell? ⟨w.heap.size, 2, none⟩ = some (.slice A n c) := HX1.out.cell 2
    have b3 : w1.drew.cell? ⟨w.heap.size, 3, none⟩ = some (.slice A' n' c') := HX1.out.cell 3
    have b4 : w1.drew.cell? ⟨w.heap.size, 4, none⟩ = some (.string d.be) := HX1.out.cell 4
    have b5 : w1.drew.cell? ⟨w.heap.size, 5, none⟩ = some (.string d.af) := HX1.out.cell 5
    have HSAd := Lib.hid (show SlN w1.drew A n c d.ad from HSA.out.kept (Below.refl _ _).drew (Nat.le_refl _))
    have HSRd := Lib.hid (show SlN w1.drew A' n' c' d.rm from HSR.out.kept (Below.refl _ _).drew (Nat.le_refl _))
    clear hF hv hr hwn hN hT
    obtain ⟨aw, haw⟩ : ∃ aw : Array Value, aw = #[.int .i64 d.fr, .int .i64 d.to, .slice A n c, .slice A' n' c', .string d.be, .string d.af, .string d.sc, .string d.sr] := ⟨_, rfl⟩
    rw [← haw]
    clear haw hNe hTe
    go_wp2
    refine wp_region_K 23 (Below (w1.drew).heap.size (w1.drew)) (by kernel_rfl) ?_
    intro hD
    refine wpAnyK_pureD (i := 1) (d := some 12) (v := ?v5_1b1) (fuel := 27) rfl (by kernel_rfl) (by kernel_rfl) (fun _ _ _ h => h) hD (Below.refl _ _) (.inl ⟨by kernel_rfl, ?y5_1b1⟩) ?n5_1b1
    case y5_1b1 => intro w' _; go_simp; with_reducible rfl
    clear hD; intro hD
    simp only [Act.put, List.setIfInBounds_toArray, List.set_cons_zero, List.set_cons_succ]
    refine wpAnyK_pureD (i := 2) (d := some 13) (v := ?v5_2b1) (fuel := 26) rfl (by kernel_rfl) (by kernel_rfl) (fun _ _ _ h => h) hD (Below.refl _ _) (.inl ⟨by kernel_rfl, ?y5_2b1⟩) ?n5_2b1
    case y5_2b1 => intro w' _; go_simp; with_reducible rfl
    clear hD; intro hD
    simp only [Act.put, List.setIfInBounds_toArray, List.set_cons_zero, List.set_cons_succ]
    refine wpAnyK_takeD (i := 3) (d := some 14) (v := ?v5_3b1) (fuel := 25) rfl (by kernel_rfl) (by kernel_rfl) (by kernel_rfl) (fun _ _ _ h => h) hD (Below.refl _ _) (.inl ⟨by kernel_rfl, ?y5_3b1⟩) ?n5_3b1
    case y5_3b1 => intro w' hS'; have e0 := cell_kept hS' (Nat.le_refl _) b0; have e1 := cell_kept hS' (Nat.le_refl _) b1; have e2 := cell_kept hS' (Nat.le_refl _) b2; have e3 := cell_kept hS' (Nat.le_refl _) b3; have e4 := cell_kept hS' (Nat.le_refl _) b4; have e5 := cell_kept hS' (Nat.le_refl _) b5; go_simp; with_reducible rfl
    clear hD; intro hD
    simp only [Act.put, List.setIfInBounds_toArray, List.set_cons_zero, List.set_cons_succ]
    refine wpAnyK_pureD (i := 5) (d := some 16) (v := ?v5_5b1) (fuel := 24) rfl (by kernel_rfl) (by kernel_rfl) (fun _ _ _ h => h) hD (Below.refl _ _) (.inl ⟨by kernel_rfl, ?y5_5b1⟩) ?n5_5b1
    case y5_5b1 => intro w' _; go_simp; with_reducible rfl
    clear hD; intro hD
    simp only [Act.put, List.setIfInBounds_toArray, List.set_cons_zero, List.set_cons_succ]
    refine wpAnyK_pureD (i := 6) (d := some 17) (v := ?v5_6b1) (fuel := 23) rfl (by kernel_rfl) (by kernel_rfl) (fun _ _ _ h => h) hD (Below.refl _ _) (.inl ⟨by kernel_rfl, ?y5_6b1⟩) ?n5_6b1
    case y5_6b1 => intro w' _; go_simp; with_reducible rfl
    clear hD; intro hD
    simp only [Act.put, List.setIfInBounds_toArray, List.set_cons_zero, List.set_cons_succ]
    refine wpAnyK_takeD (i := 7) (d := some 18) (v := ?v5_7b1) (fuel := 22) rfl (by kernel_rfl) (by kernel_rfl) (by kernel_rfl) (fun _ _ _ h => h) hD (Below.refl _ _) (.inl ⟨by kernel_rfl, ?y5_7b1⟩) ?n5_7b1
    case y5_7b1 => intro w' hS'; have e0 := cell_kept hS' (Nat.le_refl _) b0; have e1 := cell_kept hS' (Nat.le_refl _) b1; have e2 := cell_kept hS' (Nat.le_refl _) b2; have e3 := cell_kept hS' (Nat.le_refl _) b3; have e4 := cell_kept hS' (Nat.le_refl _) b4; have e5 := cell_kept hS' (Nat.le_refl _) b5; go_simp; with_reducible rfl
    clear hD; intro hD
    simp only [Act.put, List.setIfInBounds_toArray, List.set_cons_zero, List.set_cons_succ]
    refine wpAnyK_pureD (i := 9) (d := some 20) (v := ?v5_9b1) (fuel := 21) rfl (by kernel_rfl) (by kernel_rfl) (fun _ _ _ h => h) hD (Below.refl _ _) (.inl ⟨by kernel_rfl, ?y5_9b1⟩) ?n5_9b1
    case y5_9b1 => intro w' _; go_simp; with_reducible rfl
    clear hD; intro hD
    simp only [Act.put, List.setIfInBounds_toArray, List.set_cons_zero, List.set_cons_succ]
    refine wpAnyK_takeD (i := 10) (d := some 21) (v := ?v5_10b1) (fuel := 20) rfl (by kernel_rfl) (by kernel_rfl) (by kernel_rfl) (fun _ _ _ h => h) hD (Below.refl _ _) (.inl ⟨by kernel_rfl, ?y5_10b1⟩) ?n5_10b1
    case y5_10b1 => intro w' hS'; have e0 := cell_kept hS' (Nat.le_refl _) b0; have e1 := cell_kept hS' (Nat.le_refl _) b1; have e2 := cell_kept hS' (Nat.le_refl _) b2; have e3 := cell_kept hS' (Nat.le_refl _) b3; have e4 := cell_kept hS' (Nat.le_refl _) b4; have e5 := cell_kept hS' (Nat.le_refl _) b5; go_simp; with_reducible rfl
    clear hD; intro hD
    simp only [Act.put, List.setIfInBounds_toArray, List.set_cons_zero, List.set_cons_succ]
    refine wpAnyK_pureD (i := 12) (d := some 23) (v := ?v5_12b1) (fuel := 19) rfl (by kernel_rfl) (by kernel_rfl) (fun _ _ _ h => h) hD (Below.refl _ _) (.inl ⟨by kernel_rfl, ?y5_12b1⟩) ?n5_12b1
    case y5_12b1 => intro w' _; go_simp; with_reducible rfl
    clear hD; intro hD
    simp only [Act.put, List.setIfInBounds_toArray, List.set_cons_zero, List.set_cons_succ]
    refine wpAnyK_takeD (i := 13) (d := some 24) (v := ?v5_13b1) (fuel := 18) rfl (by kernel_rfl) (by kernel_rfl) (by kernel_rfl) (fun _ _ _ h => h) hD (Below.refl _ _) (.inl ⟨by kernel_rfl, ?y5_13b1⟩) ?n5_13b1
    case y5_13b1 => intro w' hS'; have e0 := cell_kept hS' (Nat.le_refl _) b0; have e1 := cell_kept hS' (Nat.le_refl _) b1; have e2 := cell_kept hS' (Nat.le_refl _) b2; have e3 := cell_kept hS' (Nat.le_refl _) b3; have e4 := cell_kept hS' (Nat.le_refl _) b4; have e5 := cell_kept hS' (Nat.le_refl _) b5; go_simp; with_reducible rfl
    clear hD; intro hD
    simp only [Act.put, List.setIfInBounds_toArray, List.set_cons_zero, List.set_cons_succ]
    refine wpAnyK_pureD (i := 15) (d := some 26) (v := ?v5_15b1) (fuel := 17) rfl (by kernel_rfl) (by kernel_rfl) (fun _ _ _ h => h) hD (Below.refl _ _) (.inl ⟨by kernel_rfl, ?y5_15b1⟩) ?n5_15b1
    case y5_15b1 => intro w' _; go_simp; with_reducible rfl
    clear hD; intro hD
    simp only [Act.put, List.setIfInBounds_toArray, List.set_cons_zero, List.set_cons_succ]
    refine wpAnyK_takeD (i := 16) (d := some 27) (v := ?v5_16b1) (fuel := 16) rfl (by kernel_rfl) (by kernel_rfl) (by kernel_rfl) (fun _ _ _ h => h) hD (Below.refl _ _) (.inl ⟨by kernel_rfl, ?y5_16b1⟩) ?n5_16b1
    case y5_16b1 => intro w' hS'; have e0 := cell_kept hS' (Nat.le_refl _) b0; have e1 := cell_kept hS' (Nat.le_refl _) b1; have e2 := cell_kept hS' (Nat.le_refl _) b2; have e3 := cell_kept hS' (Nat.le_refl _) b3; have e4 := cell_kept hS' (Nat.le_refl _) b4; have e5 := cell_kept hS' (Nat.le_refl _) b5; go_simp; with_reducible rfl
    clear hD; intro hD
    simp only [Act.put, List.setIfInBounds_toArray, List.set_cons_zero, List.set_cons_succ]
    refine wpAnyK_pureD (i := 18) (d := some 29) (v := ?v5_18b1) (fuel := 15) rfl (by kernel_rfl) (by kernel_rfl) (fun _ _ _ h => h) hD (Below.refl _ _) (.inl ⟨by kernel_rfl, ?y5_18b1⟩) ?n5_18b1
    case y5_18b1 => intro w' _; go_simp; with_reducible rfl
    clear hD; intro hD
    simp only [Act.put, List.setIfInBounds_toArray, List.set_cons_zero, List.set_cons_succ]
    refine wpAnyK_takeD (i := 19) (d := some 30) (v := ?v5_19b1) (fuel := 14) rfl (by kernel_rfl) (by kernel_rfl) (by kernel_rfl) (fun _ _ _ h => h) hD (Below.refl _ _) (.inl ⟨by kernel_rfl, ?y5_19b1⟩) ?n5_19b1
    case y5_19b1 => intro w' hS'; have e0 := cell_kept hS' (Nat.le_refl _) b0; have e1 := cell_kept hS' (Nat.le_refl _) b1; have e2 := cell_kept hS' (Nat.le_refl _) b2; have e3 := cell_kept hS' (Nat.le_refl _) b3; have e4 := cell_kept hS' (Nat.le_refl _) b4; have e5 := cell_kept hS' (Nat.le_refl _) b5; go_simp; with_reducible rfl
    clear hD; intro hD
    simp only [Act.put, List.setIfInBounds_toArray, List.set_cons_zero, List.set_cons_succ]
    refine wpAnyK_one (i := 0) (fuel := 13) (by kernel_rfl) rfl hD ?_
    clear hD; intro K0 hK0
    go_wp2_with fail
    refine (enc_TextV _ _).mono ?_
    rintro e wz0 ⟨rfl, hb⟩
    have HB0 := Lib.hid hb
    clear hb
    go_wp2
    refine hK0 _ _ (by exact HB0.out) ?_; clear hK0; intro hS_5_0 hD
    refine wpAnyK_one (i := 4) (fuel := 12) (by kernel_rfl) rfl hD ?_
    clear hD; intro K4 hK4
    go_wp2_with fail
    refine (ep_number N _ (by omega)).mono ?_
    rintro e wz4 ⟨rfl, hb⟩
    have HB4 := Lib.hid hb
    clear hb
    go_wp2
    refine hK4 _ _ (by exact Below.trans hS_5_0 (Below.mono HB4.out (Below.size hS_5_0))) ?_; clear hK4; intro hS_5_4 hD
    refine wpAnyK_one (i := 8) (fuel := 11) (by kernel_rfl) rfl hD ?_
    clear hD; intro K8 hK8
    go_wp2_with fail
    refine (ep_number T _ (by omega)).mono ?_
    rintro e wz8 ⟨rfl, hb⟩
    have HB8 := Lib.hid hb
    clear hb
    go_wp2
    refine hK8 _ _ (by exact Below.trans hS_5_4 (Below.mono HB8.out (Below.size hS_5_4))) ?_; clear hK8; intro hS_5_8 hD
    refine wpAnyK_one (i := 11) (fuel := 10) (by kernel_rfl) rfl hD ?_
    clear hD; intro K11 hK11
    go_wp2_with fail
    refine (ep_list d.ad A n c _ (HSAd.out.kept hS_5_8 (Nat.le_refl _)) (by omega)).mono ?_
    rintro e wz11 ⟨v11, rfl, ⟨A11, l11, c11, rfl, hs11⟩, hb⟩
    have HB11 := Lib.hid hb
    have HI11 := Lib.hid hs11
    clear hb hs11
    go_wp2
    refine hK11 _ _ (by exact Below.trans hS_5_8 (Below.mono HB11.out (Below.size hS_5_8))) ?_; clear hK11; intro hS_5_11 hD
    refine wpAnyK_one (i := 14) (fuel := 9) (by kernel_rfl) rfl hD ?_
    clear hD; intro K14 hK14
    go_wp2_with fail
    refine (ep_list d.rm A' n' c' _ (HSRd.out.kept hS_5_11 (Nat.le_refl _)) (by omega)).mono ?_
    rintro e wz14 ⟨v14, rfl, ⟨A14, l14, c14, rfl, hs14⟩, hb⟩
    have HB14 := Lib.hid hb
    have HI14 := Lib.hid hs14
    clear hb hs14
    go_wp2
    refine hK14 _ _ (by exact Below.trans hS_5_11 (Below.mono HB14.out (Below.size hS_5_11))) ?_; clear hK14; intro hS_5_14 hD
    refine wpAnyK_one (i := 17) (fuel := 8) (by kernel_rfl) rfl hD ?_
    clear hD; intro K17 hK17
    go_wp2_with fail
    refine (enc_NatV _ _).mono ?_
    rintro e wz17 ⟨rfl, hb⟩
    have HB17 := Lib.hid hb
    clear hb
    go_wp2
    refine hK17 _ _ (by exact Below.trans hS_5_14 (Below.mono HB17.out (Below.size hS_5_14))) ?_; clear hK17; intro hS_5_17 hD
    refine wpAnyK_one (i := 20) (fuel := 7) (by kernel_rfl) rfl hD ?_
    clear hD; intro K20 hK20
    go_wp2_with fail
    refine (enc_NatV _ _).mono ?_
    rintro e wz20 ⟨rfl, hb⟩
    have HB20 := Lib.hid hb
    clear hb
    go_wp2
    refine hK20 _ _ (by exact Below.trans hS_5_17 (Below.mono HB20.out (Below.size hS_5_17))) ?_; clear hK20; intro hS_5_20 hD
    refine wpAnyK_one (i := 21) (fuel := 6) (by kernel_rfl) rfl hD ?_
    clear hD; intro K21 hK21
    go_wp2
    refine name_world ?_
    intro w23 hw23
    have hb := below_alloc hw23
    have HR23 := Lib.hid (row7 (bxc_alloc hw23) ((((HI11.out.below HB14.out (Nat.le_refl _)).below HB17.out (Nat.le_refl _)).below HB20.out (Nat.le_refl _)).below hb (Nat.le_refl _)) (((HI14.out.below HB17.out (Nat.le_refl _)).below HB20.out (Nat.le_refl _)).below hb (Nat.le_refl _)))
    have HB21 := Lib.hid hb
    clear hb hw23
    refine hK21 _ _ (by exact Below.trans hS_5_20 (Below.mono HB21.out (Below.size hS_5_20))) ?_; clear hK21; intro hS_5_21 hD
    refine wpAnyK_one (i := 22) (fuel := 5) (by kernel_rfl) rfl hD ?_
    clear hD; intro K22 hK22
    go_wp2_with fail
    refine (enc_List _ _ 7 7 _ _ HNO.out HR23.out).mono ?_
    rintro e w24 ⟨v24, rfl, hi24, hb⟩
    have HI24 := Lib.hid hi24
    have HB22 := Lib.hid hb
    clear hb hi24
    go_wp2
    refine hK22 _ _ (by exact Below.trans hS_5_21 (Below.mono HB22.out (Below.size hS_5_21))) ?_; clear hK22; intro hS_5_22 hD
    refine wpAnyK_oneT (i := 23) (fuel := 4) (by kernel_rfl) rfl hD (by kernel_rfl) ?_
    clear hD; intro K23 hK23
    go_wp2_with fail
    refine (enc_Encode _ v24 _ _ HWE.out HI24.out).mono ?_
    rintro e w25 ⟨rfl, hb⟩
    rw [HIE.out]
    have hbl := Below.trans hS_5_22 (Below.mono hb (Below.size hS_5_22))
    have HB25 := Lib.hid (HB1.out.trans ((((Below.refl _ _).drew).trans hbl).mono HB1.out.size))
    obtain ⟨r1, r2, hr⟩ : ∃ r1 r2, encS d.it = (r1, r2) := ⟨_, _, rfl⟩
    rw [hr]
    have HMR := Lib.hid hr
    clear hb hbl hr
    go_wp2
    refine hK23 _ _ ?_; clear hK23; intro hD
    refine wpAnyK_pureTD (i := 24) (d := some 35) (v := ?v5_24b1) (fuel := 3) rfl (by kernel_rfl) (by kernel_rfl) (by kernel_rfl) (fun _ _ _ h => h) hD (.inl ⟨by kernel_rfl, ?y5_24b1⟩) ?n5_24b1
    case y5_24b1 => intro w' _; go_simp; with_reducible rfl
    clear hD; intro hD
    simp only [Act.put, List.setIfInBounds_toArray, List.set_cons_zero, List.set_cons_succ]
    refine wpAnyK_pureTD (i := 25) (d := some 36) (v := ?v5_25b1) (fuel := 2) rfl (by kernel_rfl) (by kernel_rfl) (by kernel_rfl) (fun _ _ _ h => h) hD (.inl ⟨by kernel_rfl, ?y5_25b1⟩) ?n5_25b1
    case y5_25b1 => intro w' _; go_simp; with_reducible rfl
    clear hD; intro hD
    simp only [Act.put, List.setIfInBounds_toArray, List.set_cons_zero, List.set_cons_succ]
    refine wpAnyK_oneT (i := 26) (fuel := 1) (by kernel_rfl) rfl hD (by kernel_rfl) ?_
    clear hD; intro K26 hK26
    go_wp2
    refine hK26 _ _ ?_; clear hK26; intro hD
    refine wpAnyK_oneT (i := 27) (fuel := 0) (by kernel_rfl) rfl hD (by kernel_rfl) ?_
    clear hD; intro K27 hK27
    go_wp2
    refine hK27 _ _ ?_; clear hK27; intro hD
    refine wpAnyK_done (by kernel_rfl) ?_ 0
    clear hD
    go_wp2
    go_ret2
    exact ⟨by show Ending.returned (.tuple #[.string r1, .int .i64 r2]) = _; rw [HM.out, HMR.out], HB25.out⟩
  · have HM := Lib.hid (show d.msg = (⟨#[]⟩, F) from by unfold Dl.msg; rw [if_neg (by rw [hF]; exact h0), hF])
    have hd : (F != 0) = true := by simpa using h0
    clear hF
    go_wp2
    go_ret2
    exact ⟨by show Ending.returned (.tuple #[.string ⟨#[]⟩, .int .i64 F]) = _; rw [HM.out], HB1.out⟩
end Go.Proofs.Ytelhpdlegjgjjaa

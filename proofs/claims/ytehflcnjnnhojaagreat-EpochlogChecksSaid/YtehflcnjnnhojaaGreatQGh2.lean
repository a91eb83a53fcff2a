import Derived.Test.YtehflcnjnnhojaaGreatQEpE
import Derived.Test.YtehflcnjnnhojaaGreatQNatB
set_option linter.unusedVariables false
set_option linter.unusedSimpArgs false
namespace Go.Proofs.YtehflcnjnnhojaaGreat
set_option maxRecDepth 100000
set_option maxHeartbeats 4000000
open Go.RowKit
theorem ep_form (d : Dl) (A A' : Option Addr) (n c n' c' : Nat) (w : World) (hs : SlN w A n c d.ad) (hs' : SlN w A' n' c' d.rm) (hn : n ≤ 400000) (hn' : n' ≤ 400000) (hz : SzL d.str) : Calls Tryz.prog 21 #[.agg (d.arr (.slice A n c) (.slice A' n' c'))] w (Ret (.int .i64 d.form) w) := by
 obtain ⟨W0, hW0⟩ : ∃ W0, w.alloc (.cells (d.arr (.slice A n c) (.slice A' n' c')) 31) = W0 := ⟨_, rfl⟩
 have HX0 := Hq (show BxC W0 w.heap.size (d.arr (.slice A n c) (.slice A' n' c')) 31 from by rw [← hW0]; exact BxC.new w _ _)
 have HB0 := Hq (show Below w.heap.size w W0 from by rw [← hW0]; exact (Below.refl _ _).alloc (Nat.le_refl _) _)
 have HW0 := Hq (show w.heap.size + 1 = W0.heap.size from by rw [← hW0]; simp)
 have HS := Hq (hs.kept HB0.out (Nat.le_refl _))
 have HS' := Hq (hs'.kept HB0.out (Nat.le_refl _))
 have HZ := Hq hz
 have hc := hs.2.1
 have hc2 := hs.2.2.1
 have hc' := hs'.2.1
 have hc2' := hs'.2.2.1
 have HN := Hq hs.1
 have HN' := Hq hs'.1
 have x2 : W0.cell? ⟨w.heap.size, 2, none⟩ = some (.slice A n c) := HX0.out.cell 2
 have x3 : W0.cell? ⟨w.heap.size, 3, none⟩ = some (.slice A' n' c') := HX0.out.cell 3
 clear hs hs' hz
 unfold Dl.arr at hW0 ⊢
 go_enter Tryz.func21, Tryz.ntmps21
 go_wp2_with fail
 have HCC := Hq (sl_Concat d.ad d.rm A A' n c n' c' W0.heap.size (W0.alloc (.cells #[.slice A n c, .slice A' n' c'] 27)) (HS.out.kept ((Below.refl _ _).alloc (Nat.le_refl _) _) (Nat.le_refl _)) (HS'.out.kept ((Below.refl _ _).alloc (Nat.le_refl _) _) (Nat.le_refl _)) (by omega) (by omega) ((BxC.new W0 _ _).cell 0) ((BxC.new W0 _ _).cell 1))
 refine HCC.out.mono ?_
 rintro e w1 ⟨v1, rfl, hown, hb⟩
 obtain ⟨hl1, A1, c1, rfl, hs1⟩ := SlN.of_owns hown
 have HB1 := Hq (((Below.refl W0.heap.size W0).alloc (Nat.le_refl _) _).trans (hb.mono (by simp)))
 have HS1 := Hq hs1
 have HX1 := Hq (HX0.out.kept HB1.out HX0.out.lt)
 have x4 : w1.cell? ⟨w.heap.size, 4, none⟩ = some (.string d.be) := HX1.out.cell 4
 have x5 : w1.cell? ⟨w.heap.size, 5, none⟩ = some (.string d.af) := HX1.out.cell 5
 have hc1 := hs1.2.1
 have hc12 := hs1.2.2.1
 clear hown hb hs1 hl1 HCC x2 x3
 go_wp2_with fail
 have HCC := Hq (sl_Concat (d.ad ++ d.rm) [d.be, d.af] A1 (some ⟨w1.heap.size, 0, none⟩) (n + n') c1 2 2 (w1.heap.size + 1) ((w1.alloc (.cells #[.string d.be, .string d.af] 22)).alloc (.cells #[.slice A1 (n + n') c1, .slice (some ⟨w1.heap.size, 0, none⟩) 2 2] 27))
  (HS1.out.kept (((Below.refl _ _).alloc (Nat.le_refl _) _).alloc (by simp) _) (Nat.le_refl _)) ((SlN.new w1 [d.be, d.af] 22 (by simp)).kept ((Below.refl _ _).alloc (Nat.le_refl _) _) (Nat.le_refl _)) (by omega) (by omega) ((BxC.new1 w1 _ _ _).cell 0) ((BxC.new1 w1 _ _ _).cell 1))
 refine HCC.out.mono ?_
 rintro e w3 ⟨v3, rfl, hown, hb⟩
 obtain ⟨hl3, A3, c3, rfl, hs3⟩ := SlN.of_owns hown
 have HL3 := Hq hl3
 have HS3 := Hq hs3
 have HB13 := Hq (show Below w1.heap.size w1 w3 from (((Below.refl w1.heap.size w1).alloc (Nat.le_refl _) _).alloc (by simp) _).trans (hb.mono (by simp; omega)))
 have HB3 := Hq (HB1.out.trans (HB13.out.mono HB1.out.size))
 have HX3 := Hq (HX0.out.kept HB3.out HX0.out.lt)
 have HS13 := Hq (HS1.out.kept HB13.out (Nat.le_refl _))
 have HBT := Hq (HB0.out.trans (HB3.out.mono HB0.out.size))
 have HSA := Hq (HS.out.kept HB3.out (Nat.le_refl _))
 have HSR := Hq (HS'.out.kept HB3.out (Nat.le_refl _))
 have hc3 := hs3.2.1
 have hc32 := hs3.2.2.1
 have q0 : w3.cell? ⟨w.heap.size, 0, none⟩ = some (.int .i64 d.fr) := HX3.out.cell 0
 have q1 : w3.cell? ⟨w.heap.size, 1, none⟩ = some (.int .i64 d.to) := HX3.out.cell 1
 have q2 : w3.cell? ⟨w.heap.size, 2, none⟩ = some (.slice A n c) := HX3.out.cell 2
 have q3 : w3.cell? ⟨w.heap.size, 3, none⟩ = some (.slice A' n' c') := HX3.out.cell 3
 clear hown hb hs3 hl3 x4 x5 hW0 HCC
 obtain ⟨L, hL⟩ : ∃ L, d.ad ++ d.rm ++ [d.be, d.af] = L := ⟨_, rfl⟩
 rw [hL] at HL3 HS3
 have HLE := Hq hL
 have HZL := Hq (show SzL L from fun s hs => HZ.out s (by rw [← hL] at hs; unfold Dl.str; simp only [List.mem_append, List.mem_cons, List.mem_nil_iff, or_false] at hs ⊢; rcases hs with (h | h) | h | h <;> simp [h]))
 clear hL
 go_wp2
 go_loop [22] (fun k => ∃ j : Nat, j ≤ n + n' + 2 ∧ k = .int .i64 j ∧ (∀ (i : Nat) y, i < j → L[i]? = some y → nvalid y = true)) (fun k => n + n' + 2 - (intOf k).toNat)
 case atStart => exact ⟨0, Nat.zero_le _, rfl, fun i u h => absurd h (Nat.not_lt_zero _)⟩
 case round =>
  obtain ⟨j, hj, rfl, hall⟩ := hrel
  have HALL := Hq hall
  clear hall
  by_cases hlt : j < n + n' + 2
  · obtain ⟨y, he⟩ : ∃ y, L[j]? = some y := ⟨_, List.getElem?_eq_getElem (by rw [HL3.out]; exact hlt)⟩
    obtain ⟨b, o, rfl, e1⟩ := HS3.out.cell he
    have hy := HZL.out y (List.mem_of_getElem? he)
    have HC := Hq (nat_Valid y hy w3)
    have HE := Hq he
    clear he hy
    go_wp2_with fail
    refine HC.out.mono ?_
    rintro e w4 ⟨rfl, rfl⟩
    cases hh : nvalid y with
    | false =>
     have HF := Hq (Dl.form_N (Dl.okN_no (by rw [HLE.out]; exact HE.out) hh))
     clear hh
     go_wp2
     go_ret
     exact ⟨by rw [HF.out]; rfl, HBT.out⟩
    | true =>
     have HA2 := Hq (show ∀ (i : Nat) u, i < j + 1 → L[i]? = some u → nvalid u = true from fun i u hi hu => by
      rcases Nat.lt_or_ge i j with h | h
      · exact HALL.out i u h hu
      · obtain rfl : i = j := by omega
        rw [HE.out] at hu; cases hu; exact hh)
     clear hh
     go_wp2
     go_round
     case rel => exact ⟨j + 1, by omega, by go_num, HA2.out⟩
     case measure => simp [intOf]; omega
  · obtain rfl : j = n + n' + 2 := by omega
    have HOK := Hq (show d.okN = true from Dl.okN_all (fun i y h => HALL.out i y (by rw [HLE.out] at h; have := (List.getElem?_eq_some_iff.1 h).1; have := HL3.out; omega) (by rw [← HLE.out]; exact h)))
    clear hlt hj
    by_cases h1 : d.fr < 0
    · have HF := Hq (Dl.form_R HOK.out (.inl h1))
      have g1 : decide (d.fr < 0) = true := decide_eq_true h1
      go_wp2
      go_ret
      exact ⟨by rw [HF.out]; rfl, HBT.out⟩
    · have g1 : decide (d.fr < 0) = false := decide_eq_false h1
      by_cases h2 : d.to ≤ d.fr
      · have HF := Hq (Dl.form_R HOK.out (.inr (.inl h2)))
        have g2 : decide (d.to ≤ d.fr) = true := decide_eq_true h2
        go_wp2
        go_ret
        exact ⟨by rw [HF.out]; rfl, HBT.out⟩
      · have g2 : decide (d.to ≤ d.fr) = false := decide_eq_false h2
        by_cases h3 : 4096 < d.to
        · have HF := Hq (Dl.form_R HOK.out (.inr (.inr h3)))
          have g3 : decide (4096 < d.to) = true := decide_eq_true h3
          go_wp2
          go_ret
          exact ⟨by rw [HF.out]; rfl, HBT.out⟩
        · have g3 : decide (4096 < d.to) = false := decide_eq_false h3
          have HNR := Hq (show ¬ d.rng from fun h => by rcases h with h | h | h <;> contradiction)
          go_wp2_with fail
          refine (ep_ascends d.ad A n c w3 HSA.out (Dl.okN_ad HOK.out)).mono ?_
          rintro e w4 ⟨rfl, hb⟩
          have HB4 := Hq hb
          have HBU := Hq (HBT.out.trans (hb.mono HBT.out.size))
          have r3 : w4.cell? ⟨w.heap.size, 3, none⟩ = some (.slice A' n' c') := cell_kept hb (Nat.le_refl _) q3
          have r2 : w4.cell? ⟨w.heap.size, 2, none⟩ = some (.slice A n c) := cell_kept hb (Nat.le_refl _) q2
          clear hb
          cases ha : ascB d.ad with
          | false =>
           have HF := Hq (Dl.form_T HOK.out HNR.out (Dl.twice_ad ha))
           clear ha
           go_wp2
           go_ret
           exact ⟨by rw [HF.out]; rfl, HBU.out⟩
          | true =>
           have HA := Hq ha
           clear ha
           go_wp2_with fail
           refine (ep_ascends d.rm A' n' c' w4 (HSR.out.kept HB4.out (Nat.le_refl _)) (Dl.okN_rm HOK.out)).mono ?_
           rintro e w5 ⟨rfl, hb⟩
           have HB5 := Hq (HB4.out.trans (hb.mono HB4.out.size))
           have HBV := Hq (HBT.out.trans (HB5.out.mono HBT.out.size))
           clear hb r3 r2
           cases ha : ascB d.rm with
           | false =>
            have HF := Hq (Dl.form_T HOK.out HNR.out (Dl.twice_rm ha))
            clear ha
            go_wp2
            go_ret
            exact ⟨by rw [HF.out]; rfl, HBV.out⟩
           | true =>
            have HR := Hq ha
            have r2 : w5.cell? ⟨w.heap.size, 2, none⟩ = some (.slice A n c) := cell_kept HB5.out (Nat.le_refl _) q2
            clear ha h1 h2 h3 g1 g2 g3
            go_wp2_with fail
            refine (sl_ContainsFunc1 d.ad A n c w.heap.size (memB d.rm) w5 (HSA.out.kept HB5.out (Nat.le_refl _)) (fun x hx W hW => ep_form1 x w.heap.size d.rm A' n' c' W (cell_kept (HB5.out.trans (hW.mono HB5.out.size)) (Nat.le_refl _) q3) (HSR.out.kept (HB5.out.trans (hW.mono HB5.out.size)) (Nat.le_refl _)))).mono ?_
            rintro e w6 ⟨rfl, hb⟩
            have HB6 := Hq (HB5.out.trans (hb.mono HB5.out.size))
            have HBX := Hq (HBT.out.trans (HB6.out.mono HBT.out.size))
            clear hb r2
            cases ha : d.ad.any (memB d.rm) with
            | true =>
             have HF := Hq (Dl.form_T HOK.out HNR.out (Dl.twice_any ha))
             clear ha
             go_wp2
             go_ret
             exact ⟨by rw [HF.out]; rfl, HBX.out⟩
            | false =>
             have HT := Hq (show d.twice = false from Dl.twice_no HA.out HR.out ha)
             clear ha
             go_wp2_with fail
             refine (nat_Of 3 (by decide) w6).mono ?_
             rintro e w7 ⟨rfl, hb⟩
             rw [show bstr (encN 3) = ⟨#[3]⟩ from by decide]
             have HB7 := Hq (HB6.out.trans (hb.mono HB6.out.size))
             clear hb
             go_wp2_with fail
             have HP := Hq (sl_ContainsFunc2 (d.ad ++ d.rm) A1 (n + n') c1 w7.heap.size (fun x => decide (num x < 3)) (w7.alloc (.cells #[.string ⟨#[3]⟩] 22)) (HS13.out.kept (HB7.out.alloc HB7.out.size _) (Nat.le_refl _)) (fun x hx W hW => by
              have h := ep_form2 x w7.heap.size ⟨#[3]⟩ W (((BxC.new w7 #[.string ⟨#[3]⟩] 22).kept hW (by simp)).cell 0) (Dl.okN_mem HOK.out (by simp only [List.mem_append] at hx ⊢; exact .inl hx)) three_ok
              rwa [three_num] at h))
             refine HP.out.mono ?_
             rintro e w8 ⟨rfl, hb⟩
             have HBY := Hq (HBT.out.trans (((HB7.out.alloc HB7.out.size _).trans (hb.mono (by have := HB7.out.size; simp; omega))).mono HBT.out.size))
             clear hb
             have HLO := Hq (show (d.ad ++ d.rm).any (fun x => decide (num x < 3)) = d.low from rfl)
             rw [HLO.out]
             cases ha : d.low with
             | true =>
              have HF := Hq (Dl.form_L HOK.out HNR.out HT.out ha)
              clear ha
              go_wp2
              go_ret
              exact ⟨by rw [HF.out]; rfl, HBY.out⟩
             | false =>
              have HF := Hq (Dl.form_0 HOK.out HNR.out HT.out ha)
              clear ha
              go_wp2
              go_ret
              exact ⟨by rw [HF.out]; rfl, HBY.out⟩
end Go.Proofs.YtehflcnjnnhojaaGreat
namespace Go.Proofs.YtehflcnjnnhojaaGreat
set_option maxRecDepth 100000
set_option maxHeartbeats 4000000
open Go.RowKit Go.Shelf
def txt (a : ByteArray) : It := .mk 1 ⟨#[]⟩ a []
def lstI (l : List It) : It := .mk 2 ⟨#[]⟩ ⟨#[]⟩ l
def Dl.it (d : Dl) : It := lstI [txt ⟨#[100, 101, 108, 116, 97]⟩, natIt (bstr (encN d.fr.toNat)), natIt (bstr (encN d.to.toNat)), lstI (d.ad.map natIt), lstI (d.rm.map natIt), natIt d.be, natIt d.af]
def Dl.msg (d : Dl) : ByteArray × Int := if d.form = 0 then encS d.it else (⟨#[]⟩, d.form)
theorem Dl.form_ok {d : Dl} (h : d.form = 0) : d.okN = true ∧ ¬ d.rng ∧ d.twice = false ∧ d.low = false := by
 unfold Dl.form at h
 split at h
 · cases h
 · split at h
   · cases h
   · split at h
     · cases h
     · split at h
       · cases h
       · rename_i h1 h2 h3 h4
         exact ⟨by simpa using h1, h2, by simpa using h3, by simpa using h4⟩
theorem below_allocE {W W' : World} {o : Obj} (h : W' = W.alloc o) : Below W.heap.size W W' := by rw [h]; exact (Below.refl _ _).alloc (Nat.le_refl _) _
theorem bxc_alloc {W W' : World} {cs : Array Value} {T : TypeId} (h : W' = W.alloc (.cells cs T)) : BxC W' W.heap.size cs T := by rw [h]; exact BxC.new _ _ _
theorem set_cons_9 {α : Type} (a0 a1 a2 a3 a4 a5 a6 a7 a8 : α) (l : List α) (n : Nat) (v : α) : (a0 :: a1 :: a2 :: a3 :: a4 :: a5 :: a6 :: a7 :: a8 :: l).set (n + 9) v = a0 :: a1 :: a2 :: a3 :: a4 :: a5 :: a6 :: a7 :: a8 :: l.set n v := rfl
theorem natIt_weight (l : List ByteArray) (h : ∀ s ∈ l, s.size ≤ 128) : Its.weight (l.map natIt) ≤ l.length * 139 := by
 induction l with
 | nil => simp [Its.weight]
 | cons a l ih =>
  have h1 := ih (fun s hs => h s (List.mem_cons_of_mem _ hs))
  have h2 := h a List.mem_cons_self
  have e1 : (⟨#[]⟩ : ByteArray).size = 0 := rfl
  simp only [List.map_cons, Its.weight, natIt, It.weight, List.length_cons] at h1 ⊢
  omega
theorem Dl.it_weight {d : Dl} (h : d.form = 0) (hn : d.ad.length ≤ 400000) (hn' : d.rm.length ≤ 400000) : d.it.weight ≤ 1000000000 ∧ Its.nodes d.it.list ≤ 1000000000000 := by
 obtain ⟨hv, hr, _⟩ := d.form_ok h
 have g1 := natIt_weight d.ad (fun s h => size_valid (d.okN_ad hv s h))
 have g2 := natIt_weight d.rm (fun s h => size_valid (d.okN_rm hv s h))
 have g3 := size_valid (d.okN_mem hv (y := d.be) (by simp))
 have g4 := size_valid (d.okN_mem hv (y := d.af) (by simp))
 have e0 : (⟨#[]⟩ : ByteArray).size = 0 := rfl
 have e1 : (⟨#[100, 101, 108, 116, 97]⟩ : ByteArray).size = 5 := rfl
 have h1 : d.fr.toNat ≤ 4096 := by unfold Dl.rng at hr; omega
 have h2 : d.to.toNat ≤ 4096 := by unfold Dl.rng at hr; omega
 have n1 : (encN d.fr.toNat).length ≤ 8 := encN_length_le.2 (by omega)
 have n2 : (encN d.to.toNat).length ≤ 8 := encN_length_le.2 (by omega)
 have hd1 := natIt_nodes d.ad
 have hd2 := natIt_nodes d.rm
 constructor
 · generalize hq : List.map natIt d.ad = q at *
   generalize hq' : List.map natIt d.rm = q' at *
   simp only [Dl.it, lstI, txt, hq, hq', It.weight, Its.weight]
   simp only [natIt, It.weight, Its.weight, bstr_size, e0, e1]
   omega
 · generalize hq : List.map natIt d.ad = q at *
   generalize hq' : List.map natIt d.rm = q' at *
   simp only [Dl.it, lstI, txt, hq, hq', It.list, It.nodes, Its.nodes]
   simp only [natIt, It.nodes, Its.nodes]
   omega
theorem row7 {w : World} {T : TypeId} {fr : Nat × Nat} {b : Nat} {k0 k1 k2 k3 k4 k5 k6 : Int} {n0 n1 n2 n3 n4 n5 n6 t0 t1 t2 t3 t4 t5 t6 : ByteArray} {A3 A4 : Option Addr} {l3 c3 l4 c4 : Nat} {i3 i4 : List It} {ok3 ok4 : Nat → Prop}
 (hb : w.heap[b]? = some (.cells #[.int .i64 k0, .string n0, .string t0, .slice none 0 0, .int .i64 k1, .string n1, .string t1, .slice none 0 0, .int .i64 k2, .string n2, .string t2, .slice none 0 0, .int .i64 k3, .string n3, .string t3, .slice A3 l3 c3, .int .i64 k4, .string n4, .string t4, .slice A4 l4 c4, .int .i64 k5, .string n5, .string t5, .slice none 0 0, .int .i64 k6, .string n6, .string t6, .slice none 0 0] T fr))
 (h3 : SlAt w ok3 A3 l3 c3 i3) (h4 : SlAt w ok4 A4 l4 c4 i4) :
 SlAt w (fun _ => True) (some ⟨b, 0, none⟩) 7 7 [.mk k0 n0 t0 [], .mk k1 n1 t1 [], .mk k2 n2 t2 [], .mk k3 n3 t3 i3, .mk k4 n4 t4 i4, .mk k5 n5 t5 [], .mk k6 n6 t6 []] := by
 have hc := fun k => Lib.cell_of_heap hb (j := k)
 refine ⟨rfl, Nat.le_refl _, by omega, b, 0, fun _ => ⟨rfl, trivial⟩, ?_⟩
 exact ⟨CellsAt.mk' (hc 0) (hc 1) (hc 2) (hc 3) (SlAt.nil _ _), CellsAt.mk' (hc 4) (hc 5) (hc 6) (hc 7) (SlAt.nil _ _), CellsAt.mk' (hc 8) (hc 9) (hc 10) (hc 11) (SlAt.nil _ _), CellsAt.mk' (hc 12) (hc 13) (hc 14) (hc 15) (h3.low (fun _ _ => trivial)), CellsAt.mk' (hc 16) (hc 17) (hc 18) (hc 19) (h4.low (fun _ _ => trivial)), CellsAt.mk' (hc 20) (hc 21) (hc 22) (hc 23) (SlAt.nil _ _), CellsAt.mk' (hc 24) (hc 25) (hc 26) (hc 27) (SlAt.nil _ _), trivial⟩
theorem ep_Message (d : Dl) (A A' : Option Addr) (n c n' c' : Nat) (w : World) (hs : SlN w A n c d.ad) (hs' : SlN w A' n' c' d.rm) (hn : n ≤ 400000) (hn' : n' ≤ 400000) (hz : SzL d.str) : Calls Tryz.prog 14 #[.agg (d.arr (.slice A n c) (.slice A' n' c'))] w (RetSE d.msg w) := by
 obtain ⟨W0, hW0⟩ : ∃ W0, w.alloc (.cells (d.arr (.slice A n c) (.slice A' n' c')) 31) = W0 := ⟨_, rfl⟩
 have HX0 := Hq (show BxC W0 w.heap.size (d.arr (.slice A n c) (.slice A' n' c')) 31 from by rw [← hW0]; exact BxC.new w _ _)
 have HB0 := Hq (show Below w.heap.size w W0 from by rw [← hW0]; exact (Below.refl _ _).alloc (Nat.le_refl _) _)
 have HW0 := Hq (show w.heap.size + 1 = W0.heap.size from by rw [← hW0]; simp)
 have HS := Hq (hs.kept HB0.out (Nat.le_refl _))
 have HS' := Hq (hs'.kept HB0.out (Nat.le_refl _))
 have HZ := Hq hz
 have hc := hs.2.1
 have hc2 := hs.2.2.1
 have hc' := hs'.2.1
 have hc2' := hs'.2.2.1
 have HN := Hq hs.1
 have HN' := Hq hs'.1
 have x0 : W0.cell? ⟨w.heap.size, 0, none⟩ = some (.int .i64 d.fr) := HX0.out.cell 0
 have x1 : W0.cell? ⟨w.heap.size, 1, none⟩ = some (.int .i64 d.to) := HX0.out.cell 1
 have x2 : W0.cell? ⟨w.heap.size, 2, none⟩ = some (.slice A n c) := HX0.out.cell 2
 have x3 : W0.cell? ⟨w.heap.size, 3, none⟩ = some (.slice A' n' c') := HX0.out.cell 3
 have x4 : W0.cell? ⟨w.heap.size, 4, none⟩ = some (.string d.be) := HX0.out.cell 4
 have x5 : W0.cell? ⟨w.heap.size, 5, none⟩ = some (.string d.af) := HX0.out.cell 5
 have x6 : W0.cell? ⟨w.heap.size, 6, none⟩ = some (.string d.sc) := HX0.out.cell 6
 have x7 : W0.cell? ⟨w.heap.size, 7, none⟩ = some (.string d.sr) := HX0.out.cell 7
 have HC := Hq (ep_form d A A' n c n' c' W0 HS.out HS'.out hn hn' hz)
 clear hs hs' hz
 unfold Dl.arr at hW0 ⊢
 go_enter Tryz.func14, Tryz.ntmps14
 go_wp2_with fail
 refine (show Calls _ _ _ _ _ from HC.out).mono ?_
 rintro e w1 ⟨rfl, hb⟩
 have HX1 := Hq (HX0.out.kept hb HX0.out.lt)
 have HB1 := Hq (HB0.out.trans (hb.mono HB0.out.size))
 have HSA := Hq (HS.out.kept hb (Nat.le_refl _))
 have HSR := Hq (HS'.out.kept hb (Nat.le_refl _))
 clear hb x0 x1 x2 x3 x4 x5 x6 x7 hW0 HC
 obtain ⟨F, hF⟩ : ∃ F, d.form = F := ⟨_, rfl⟩
 rw [hF]
 by_cases h0 : F = 0
 · subst h0
   have HFO := Hq hF
   have HM := Hq (show d.msg = encS d.it from by unfold Dl.msg; rw [if_pos hF])
   obtain ⟨hv, hr, _⟩ := d.form_ok hF
   have hwn := d.it_weight hF (by rw [HN.out]; exact hn) (by rw [HN'.out]; exact hn')
   obtain ⟨N, hN⟩ : ∃ N, d.fr.toNat = N := ⟨_, rfl⟩
   obtain ⟨T, hT⟩ : ∃ T, d.to.toNat = T := ⟨_, rfl⟩
   unfold Dl.rng at hr
   have hN4 : N ≤ 4096 := by omega
   have hT4 : T ≤ 4096 := by omega
   have hNe : d.fr = (N : Int) := by omega
   have hTe : d.to = (T : Int) := by omega
   have HIE := Hq (show It.mk 2 ⟨#[]⟩ ⟨#[]⟩ [.mk 1 ⟨#[]⟩ ⟨#[100, 101, 108, 116, 97]⟩ [], .mk 0 (bstr (encN N)) ⟨#[]⟩ [], .mk 0 (bstr (encN T)) ⟨#[]⟩ [], .mk 2 ⟨#[]⟩ ⟨#[]⟩ (d.ad.map natIt), .mk 2 ⟨#[]⟩ ⟨#[]⟩ (d.rm.map natIt), .mk 0 d.be ⟨#[]⟩ [], .mk 0 d.af ⟨#[]⟩ []] = d.it from by rw [← hN, ← hT]; rfl)
   have HWE := Hq hwn.1
   have HNO := Hq hwn.2
   rw [← HIE.out] at HWE HNO
   have b0 : w1.drew.cell? ⟨w.heap.size, 0, none⟩ = some (.int .i64 (N : Int)) := (HX1.out.cell 0).trans (by rw [← hNe]; rfl)
   have b1 : w1.drew.cell? ⟨w.heap.size, 1, none⟩ = some (.int .i64 (T : Int)) := (HX1.out.cell 1).trans (by rw [← hTe]; rfl)
   have b2 : w1.drew.cell? ⟨w.heap.size, 2, none⟩ = some (.slice A n c) := HX1.out.cell 2
   have b3 : w1.drew.cell? ⟨w.heap.size, 3, none⟩ = some (.slice A' n' c') := HX1.out.cell 3
   have b4 : w1.drew.cell? ⟨w.heap.size, 4, none⟩ = some (.string d.be) := HX1.out.cell 4
   have b5 : w1.drew.cell? ⟨w.heap.size, 5, none⟩ = some (.string d.af) := HX1.out.cell 5
   have HSAd := Hq (show SlN w1.drew A n c d.ad from HSA.out.kept (Below.refl _ _).drew (Nat.le_refl _))
   have HSRd := Hq (show SlN w1.drew A' n' c' d.rm from HSR.out.kept (Below.refl _ _).drew (Nat.le_refl _))
   clear hF hv hr hwn hN hT
   obtain ⟨aw, haw⟩ : ∃ aw : Array Value, aw = #[.int .i64 d.fr, .int .i64 d.to, .slice A n c, .slice A' n' c', .string d.be, .string d.af, .string d.sc, .string d.sr] := ⟨_, rfl⟩
   rw [← haw]
   clear haw hNe hTe
   go_wp2
   refine wp_region_K 23 (Below (w1.drew).heap.size (w1.drew)) (by kernel_rfl) ?_
   intro hD
   refine qPD 1 12 27 rfl hD (Below.refl _ _) ?_
   clear hD; intro hD
   simp only [Act.put, sqA, sqB, sqC]
   refine qPD 2 13 26 rfl hD (Below.refl _ _) ?_
   clear hD; intro hD
   simp only [Act.put, sqA, sqB, sqC]
   refine qTD 3 14 25 rfl hD (Below.refl _ _) (by intro w' hS'; have e0 := cell_kept hS' (Nat.le_refl _) b0; have e1 := cell_kept hS' (Nat.le_refl _) b1; have e2 := cell_kept hS' (Nat.le_refl _) b2; have e3 := cell_kept hS' (Nat.le_refl _) b3; have e4 := cell_kept hS' (Nat.le_refl _) b4; have e5 := cell_kept hS' (Nat.le_refl _) b5; go_simp; with_reducible rfl) ?_
   clear hD; intro hD
   simp only [Act.put, sqA, sqB, sqC]
   refine qPD 5 16 24 rfl hD (Below.refl _ _) ?_
   clear hD; intro hD
   simp only [Act.put, sqA, sqB, sqC]
   refine qPD 6 17 23 rfl hD (Below.refl _ _) ?_
   clear hD; intro hD
   simp only [Act.put, sqA, sqB, sqC]
   refine qTD 7 18 22 rfl hD (Below.refl _ _) (by intro w' hS'; have e0 := cell_kept hS' (Nat.le_refl _) b0; have e1 := cell_kept hS' (Nat.le_refl _) b1; have e2 := cell_kept hS' (Nat.le_refl _) b2; have e3 := cell_kept hS' (Nat.le_refl _) b3; have e4 := cell_kept hS' (Nat.le_refl _) b4; have e5 := cell_kept hS' (Nat.le_refl _) b5; go_simp; with_reducible rfl) ?_
   clear hD; intro hD
   simp only [Act.put, sqA, sqB, sqC]
   refine qPD 9 20 21 rfl hD (Below.refl _ _) ?_
   clear hD; intro hD
   simp only [Act.put, sqA, sqB, sqC]
   refine qTD 10 21 20 rfl hD (Below.refl _ _) (by intro w' hS'; have e0 := cell_kept hS' (Nat.le_refl _) b0; have e1 := cell_kept hS' (Nat.le_refl _) b1; have e2 := cell_kept hS' (Nat.le_refl _) b2; have e3 := cell_kept hS' (Nat.le_refl _) b3; have e4 := cell_kept hS' (Nat.le_refl _) b4; have e5 := cell_kept hS' (Nat.le_refl _) b5; go_simp; with_reducible rfl) ?_
   clear hD; intro hD
   simp only [Act.put, sqA, sqB, sqC]
   refine qPD 12 23 19 rfl hD (Below.refl _ _) ?_
   clear hD; intro hD
   simp only [Act.put, sqA, sqB, sqC]
   refine qTD 13 24 18 rfl hD (Below.refl _ _) (by intro w' hS'; have e0 := cell_kept hS' (Nat.le_refl _) b0; have e1 := cell_kept hS' (Nat.le_refl _) b1; have e2 := cell_kept hS' (Nat.le_refl _) b2; have e3 := cell_kept hS' (Nat.le_refl _) b3; have e4 := cell_kept hS' (Nat.le_refl _) b4; have e5 := cell_kept hS' (Nat.le_refl _) b5; go_simp; with_reducible rfl) ?_
   clear hD; intro hD
   simp only [Act.put, sqA, sqB, sqC]
   refine qPD 15 26 17 rfl hD (Below.refl _ _) ?_
   clear hD; intro hD
   simp only [Act.put, sqA, sqB, sqC]
   refine qTD 16 27 16 rfl hD (Below.refl _ _) (by intro w' hS'; have e0 := cell_kept hS' (Nat.le_refl _) b0; have e1 := cell_kept hS' (Nat.le_refl _) b1; have e2 := cell_kept hS' (Nat.le_refl _) b2; have e3 := cell_kept hS' (Nat.le_refl _) b3; have e4 := cell_kept hS' (Nat.le_refl _) b4; have e5 := cell_kept hS' (Nat.le_refl _) b5; go_simp; with_reducible rfl) ?_
   clear hD; intro hD
   simp only [Act.put, sqA, sqB, sqC]
   refine qPD 18 29 15 rfl hD (Below.refl _ _) ?_
   clear hD; intro hD
   simp only [Act.put, sqA, sqB, sqC]
   refine qTD 19 30 14 rfl hD (Below.refl _ _) (by intro w' hS'; have e0 := cell_kept hS' (Nat.le_refl _) b0; have e1 := cell_kept hS' (Nat.le_refl _) b1; have e2 := cell_kept hS' (Nat.le_refl _) b2; have e3 := cell_kept hS' (Nat.le_refl _) b3; have e4 := cell_kept hS' (Nat.le_refl _) b4; have e5 := cell_kept hS' (Nat.le_refl _) b5; go_simp; with_reducible rfl) ?_
   clear hD; intro hD
   simp only [Act.put, sqA, sqB, sqC]
   refine wpAnyK_one (i := 0) (fuel := 13) (by kernel_rfl) rfl hD ?_
   clear hD; intro K0 hK0
   go_wp2_with fail
   refine (enc_TextV _ _).mono ?_
   rintro e wz0 ⟨rfl, hb⟩
   have HB0 := Hq hb
   clear hb
   go_wp2
   refine hK0 _ _ (by exact HB0.out) ?_; clear hK0; intro hS_5_0 hD
   refine wpAnyK_one (i := 4) (fuel := 12) (by kernel_rfl) rfl hD ?_
   clear hD; intro K4 hK4
   go_wp2_with fail
   refine (ep_number N _ (by omega)).mono ?_
   rintro e wz4 ⟨rfl, hb⟩
   have HB4 := Hq hb
   clear hb
   go_wp2
   refine hK4 _ _ (by exact Below.trans hS_5_0 (Below.mono HB4.out (Below.size hS_5_0))) ?_; clear hK4; intro hS_5_4 hD
   refine wpAnyK_one (i := 8) (fuel := 11) (by kernel_rfl) rfl hD ?_
   clear hD; intro K8 hK8
   go_wp2_with fail
   refine (ep_number T _ (by omega)).mono ?_
   rintro e wz8 ⟨rfl, hb⟩
   have HB8 := Hq hb
   clear hb
   go_wp2
   refine hK8 _ _ (by exact Below.trans hS_5_4 (Below.mono HB8.out (Below.size hS_5_4))) ?_; clear hK8; intro hS_5_8 hD
   refine wpAnyK_one (i := 11) (fuel := 10) (by kernel_rfl) rfl hD ?_
   clear hD; intro K11 hK11
   go_wp2_with fail
   refine (ep_list d.ad A n c _ (HSAd.out.kept hS_5_8 (Nat.le_refl _)) (by omega)).mono ?_
   rintro e wz11 ⟨v11, rfl, ⟨A11, l11, c11, rfl, hs11⟩, hb⟩
   have HB11 := Hq hb
   have HI11 := Hq hs11
   clear hb hs11
   go_wp2
   refine hK11 _ _ (by exact Below.trans hS_5_8 (Below.mono HB11.out (Below.size hS_5_8))) ?_; clear hK11; intro hS_5_11 hD
   refine wpAnyK_one (i := 14) (fuel := 9) (by kernel_rfl) rfl hD ?_
   clear hD; intro K14 hK14
   go_wp2_with fail
   refine (ep_list d.rm A' n' c' _ (HSRd.out.kept hS_5_11 (Nat.le_refl _)) (by omega)).mono ?_
   rintro e wz14 ⟨v14, rfl, ⟨A14, l14, c14, rfl, hs14⟩, hb⟩
   have HB14 := Hq hb
   have HI14 := Hq hs14
   clear hb hs14
   go_wp2
   refine hK14 _ _ (by exact Below.trans hS_5_11 (Below.mono HB14.out (Below.size hS_5_11))) ?_; clear hK14; intro hS_5_14 hD
   refine wpAnyK_one (i := 17) (fuel := 8) (by kernel_rfl) rfl hD ?_
   clear hD; intro K17 hK17
   go_wp2_with fail
   refine (enc_NatV _ _).mono ?_
   rintro e wz17 ⟨rfl, hb⟩
   have HB17 := Hq hb
   clear hb
   go_wp2
   refine hK17 _ _ (by exact Below.trans hS_5_14 (Below.mono HB17.out (Below.size hS_5_14))) ?_; clear hK17; intro hS_5_17 hD
   refine wpAnyK_one (i := 20) (fuel := 7) (by kernel_rfl) rfl hD ?_
   clear hD; intro K20 hK20
   go_wp2_with fail
   refine (enc_NatV _ _).mono ?_
   rintro e wz20 ⟨rfl, hb⟩
   have HB20 := Hq hb
   clear hb
   go_wp2
   refine hK20 _ _ (by exact Below.trans hS_5_17 (Below.mono HB20.out (Below.size hS_5_17))) ?_; clear hK20; intro hS_5_20 hD
   refine wpAnyK_one (i := 21) (fuel := 6) (by kernel_rfl) rfl hD ?_
   clear hD; intro K21 hK21
   go_wp2
   refine name_world ?_
   intro w23 hw23
   have hb := below_allocE hw23
   have HR23 := Hq (row7 (bxc_alloc hw23) ((((HI11.out.below HB14.out (Nat.le_refl _)).below HB17.out (Nat.le_refl _)).below HB20.out (Nat.le_refl _)).below hb (Nat.le_refl _)) (((HI14.out.below HB17.out (Nat.le_refl _)).below HB20.out (Nat.le_refl _)).below hb (Nat.le_refl _)))
   have HB21 := Hq hb
   clear hb hw23
   refine hK21 _ _ (by exact Below.trans hS_5_20 (Below.mono HB21.out (Below.size hS_5_20))) ?_; clear hK21; intro hS_5_21 hD
   refine wpAnyK_one (i := 22) (fuel := 5) (by kernel_rfl) rfl hD ?_
   clear hD; intro K22 hK22
   go_wp2_with fail
   refine (enc_List _ _ 7 7 _ _ HNO.out HR23.out).mono ?_
   rintro e w24 ⟨v24, rfl, hi24, hb⟩
   have HI24 := Hq hi24
   have HB22 := Hq hb
   clear hb hi24
   go_wp2
   refine hK22 _ _ (by exact Below.trans hS_5_21 (Below.mono HB22.out (Below.size hS_5_21))) ?_; clear hK22; intro hS_5_22 hD
   refine wpAnyK_oneT (i := 23) (fuel := 4) (by kernel_rfl) rfl hD (by kernel_rfl) ?_
   clear hD; intro K23 hK23
   go_wp2_with fail
   refine (enc_Encode _ v24 _ _ HWE.out HI24.out).mono ?_
   rintro e w25 ⟨rfl, hb⟩
   rw [HIE.out]
   have hbl := Below.trans hS_5_22 (Below.mono hb (Below.size hS_5_22))
   have HB25 := Hq (HB1.out.trans ((((Below.refl _ _).drew).trans hbl).mono HB1.out.size))
   obtain ⟨r1, r2, hr⟩ : ∃ r1 r2, encS d.it = (r1, r2) := ⟨_, _, rfl⟩
   rw [hr]
   have HMR := Hq hr
   clear hb hbl hr
   go_wp2
   refine hK23 _ _ ?_; clear hK23; intro hD
   refine wpAnyK_pureTD (i := 24) (d := some 35) (v := ?v5_24b1) (fuel := 3) rfl (by kernel_rfl) (by kernel_rfl) (by kernel_rfl) (fun _ _ _ h => h) hD (.inl ⟨by kernel_rfl, ?y5_24b1⟩) ?n5_24b1
   case y5_24b1 => intro w' _; go_simp; with_reducible rfl
   clear hD; intro hD
   simp only [Act.put, sqA, sqB, sqC]
   refine wpAnyK_pureTD (i := 25) (d := some 36) (v := ?v5_25b1) (fuel := 2) rfl (by kernel_rfl) (by kernel_rfl) (by kernel_rfl) (fun _ _ _ h => h) hD (.inl ⟨by kernel_rfl, ?y5_25b1⟩) ?n5_25b1
   case y5_25b1 => intro w' _; go_simp; with_reducible rfl
   clear hD; intro hD
   simp only [Act.put, sqA, sqB, sqC]
   refine wpAnyK_oneT (i := 26) (fuel := 1) (by kernel_rfl) rfl hD (by kernel_rfl) ?_
   clear hD; intro K26 hK26
   go_wp2
   refine hK26 _ _ ?_; clear hK26; intro hD
   refine wpAnyK_oneT (i := 27) (fuel := 0) (by kernel_rfl) rfl hD (by kernel_rfl) ?_
   clear hD; intro K27 hK27
   go_wp2
   refine hK27 _ _ ?_; clear hK27; intro hD
   refine wpAnyK_done (by kernel_rfl) ?_ 0
   clear hD
   go_wp2
   go_ret2
   exact ⟨by show Ending.returned (.tuple #[.string r1, .int .i64 r2]) = _; rw [HM.out, HMR.out], HB25.out⟩
 · have HM := Hq (show d.msg = (⟨#[]⟩, F) from by unfold Dl.msg; rw [if_neg (by rw [hF]; exact h0), hF])
   have hd : (F != 0) = true := by simpa using h0
   clear hF
   go_wp2
   go_ret2
   exact ⟨by show Ending.returned (.tuple #[.string ⟨#[]⟩, .int .i64 F]) = _; rw [HM.out], HB1.out⟩
end Go.Proofs.YtehflcnjnnhojaaGreat
namespace Go.Proofs.YtehflcnjnnhojaaGreat
section
variable {P : Program} {ops : Array Oper} {Q : Exit → Act → World → Prop} {md : Region.Mode} {S : World → Prop} {k : Nat}
def Ghost2 (P : Program) (md : Region.Mode) (ops : Array Oper) (Q : Exit → Act → World → Prop) (k : Nat) (S : World → Prop) (i1 i2 : Nat) (d1 d2 : Tmp) (fuel : Nat) (listed : Array Bool) (a : Act) (I : Bool → Value → Bool → Value → World → Prop) : Prop :=
 (∀ y, GhostK P md ops Q k S i1 d1 fuel (listed.setIfInBounds i2 true) (a.put (some d2) y) (fun b x w => I b x true y w)) ∧ GhostK P md ops Q k S i1 d1 (fuel + 1) listed a (fun b x w => I b x false undef w)
theorem put_comm2 (a : Act) (x v : Value) {d e : Tmp} (h : d ≠ e) : (a.put (some d) x).put (some e) v = (a.put (some e) v).put (some d) x := Act.put_comm a x v (fun d' h1 h2 => by cases h1; cases h2; exact h rfl)
theorem ghost2_step {i1 i2 j : Nat} {o1 o2 oj : Oper} {d1 d2 dj : Tmp} {fuel : Nat} {listed : Array Bool} {a : Act} {I : Bool → Value → Bool → Value → World → Prop} {β : Type} (val : β → Value) (I' : β → Bool → Value → Bool → Value → World → Prop)
 (hr0 : Region.ready md ops listed = [j, i1, i2]) (hr1 : Region.ready md ops (listed.setIfInBounds i1 true) = [j, i2]) (hr2 : Region.ready md ops (listed.setIfInBounds i2 true) = [j, i1]) (hr3 : Region.ready md ops ((listed.setIfInBounds i2 true).setIfInBounds i1 true) = [j])
 (h1 : ops[i1]? = some o1) (h2 : ops[i2]? = some o2) (hj : ops[j]? = some oj) (hD : Down md ops listed) (ha1 : a.put (some d1) undef = a) (ha2 : a.put (some d2) undef = a) (hne : i1 ≠ i2) (hn1 : i1 ≠ j) (hn2 : i2 ≠ j) (n12 : d1 ≠ d2) (n1j : d1 ≠ dj) (n2j : d2 ≠ dj)
 (hS : ∀ b x c y w, I b x c y w → S w) (hS' : ∀ v b x c y w, I' v b x c y w → S w)
 (al1 : ∀ c y w, I false undef c y w → ∀ K : Act → World → Prop, (∀ x w', I true x c y w' → K ((a.put (some d2) y).put (some d1) x) w') → wpList P ops (EndK K Q) [o1] (a.put (some d2) y) w)
 (al2 : ∀ b x w, I b x false undef w → ∀ K : Act → World → Prop, (∀ y w', I b x true y w' → K ((a.put (some d1) x).put (some d2) y) w') → wpList P ops (EndK K Q) [o2] (a.put (some d1) x) w)
 (st : ∀ b x c y w, I b x c y w → ∀ K : Act → World → Prop, (∀ v w', I' v b x c y w' → K (((a.put (some d2) y).put (some d1) x).put (some dj) (val v)) w') → wpList P ops (EndK K Q) [oj] ((a.put (some d2) y).put (some d1) x) w)
 (hnext : ∀ v, Down md ops (listed.setIfInBounds j true) → Ghost2 P md ops Q k S i1 i2 d1 d2 fuel (listed.setIfInBounds j true) (a.put (some dj) (val v)) (I' v)) :
 Ghost2 P md ops Q k S i1 i2 d1 d2 (fuel + 1) listed a I := by
 have m1 : i1 ∈ Region.ready md ops listed := by rw [hr0]; simp
 have m2 : i2 ∈ Region.ready md ops listed := by rw [hr0]; simp
 have mj : j ∈ Region.ready md ops listed := by rw [hr0]; simp
 have hDj := hD.set mj
 have first : ∀ y, GhostK P md ops Q k S i1 d1 (fuel + 1) (listed.setIfInBounds i2 true) (a.put (some d2) y) (fun b x w => I b x true y w) := fun y => by
  refine ghost_step val (fun v b x w => I' v b x true y w) hr2 hr3 h1 hj (hD.set m2) (by rw [put_comm2 _ _ _ n12.symm, ha1]) n1j (fun v b x w h => hS' _ _ _ _ _ _ h) (fun b x w h => hS _ _ _ _ _ h) (fun w h K hK => al1 true y w h K hK) (fun b x w h K hK => st b x true y w h K hK) (fun v _ => ?_)
  have h := (hnext v hDj).1 y
  rw [put_comm2 _ _ _ n2j, Array.setIfInBounds_comm _ _ hn2]
  exact h
 have only1 : ∀ x w, I true x false undef w → wpAnyK P md ops Q k S (fuel + 2) (listed.setIfInBounds i1 true) (a.put (some d1) x) w := fun x w h => by
  refine wpAnyK_two hr1 hj h2 (hD.set m1) (fun K hK => ?_) (fun K hK => ?_)
  · have h3 := st true x false undef w h K fun v w' h' => by
     rw [ha2]
     refine hK _ w' (hS' _ _ _ _ _ _ h') fun _ _ => ?_
     rw [put_comm2 _ _ _ n1j, Array.setIfInBounds_comm _ _ hn1]
     exact (hnext v hDj).2.1 x w' h'
    rw [ha2] at h3
    exact h3
  · exact al2 true x w h K fun y w' h' => hK _ w' (hS _ _ _ _ _ h') fun _ _ => by
     rw [put_comm2 _ _ _ n12, Array.setIfInBounds_comm _ _ hne]
     exact (first y).1 x w' h'
 refine ⟨first, only1, fun w h => ?_⟩
 refine wpAnyK_three hr0 hj h1 h2 hD (fun K hK => ?_) (fun K hK => ?_) (fun K hK => ?_)
 · have h3 := st false undef false undef w h K fun v w' h' => by
    rw [ha2, ha1]
    exact hK _ w' (hS' _ _ _ _ _ _ h') fun _ _ => (hnext v hDj).2.2 w' h'
   rw [ha2, ha1] at h3
   exact h3
 · have h3 := al1 false undef w h K fun x w' h' => by
    rw [ha2]
    exact hK _ w' (hS _ _ _ _ _ h') fun _ _ => only1 x w' h'
   rw [ha2] at h3
   exact h3
 · have h3 := al2 false undef w h K fun y w' h' => by
    rw [ha1]
    exact hK _ w' (hS _ _ _ _ _ h') fun _ _ => (first y).2 w' h'
   rw [ha1] at h3
   exact h3
theorem ghost2_end {i1 i2 : Nat} {o1 o2 : Oper} {d1 d2 : Tmp} {fuel : Nat} {listed : Array Bool} {a : Act} {I : Bool → Value → Bool → Value → World → Prop}
 (hr0 : Region.ready md ops listed = [i1, i2]) (hr2 : Region.ready md ops (listed.setIfInBounds i2 true) = [i1])
 (h1 : ops[i1]? = some o1) (h2 : ops[i2]? = some o2) (hD : Down md ops listed) (ha1 : a.put (some d1) undef = a) (ha2 : a.put (some d2) undef = a) (hne : i1 ≠ i2) (n12 : d1 ≠ d2)
 (hS : ∀ b x c y w, I b x c y w → S w)
 (al1 : ∀ c y w, I false undef c y w → ∀ K : Act → World → Prop, (∀ x w', I true x c y w' → K ((a.put (some d2) y).put (some d1) x) w') → wpList P ops (EndK K Q) [o1] (a.put (some d2) y) w)
 (al2 : ∀ b x w, I b x false undef w → ∀ K : Act → World → Prop, (∀ y w', I b x true y w' → K ((a.put (some d1) x).put (some d2) y) w') → wpList P ops (EndK K Q) [o2] (a.put (some d1) x) w)
 (hnext : ∀ x, Down md ops (listed.setIfInBounds i1 true) → GhostK P md ops Q k S i2 d2 fuel (listed.setIfInBounds i1 true) (a.put (some d1) x) (fun c y w => I true x c y w)) :
 Ghost2 P md ops Q k S i1 i2 d1 d2 fuel listed a I := by
 have m1 : i1 ∈ Region.ready md ops listed := by rw [hr0]; simp
 have m2 : i2 ∈ Region.ready md ops listed := by rw [hr0]; simp
 have hD1 := hD.set m1
 have both : ∀ x y w, I true x true y w → wpAnyK P md ops Q k S fuel ((listed.setIfInBounds i2 true).setIfInBounds i1 true) ((a.put (some d2) y).put (some d1) x) w := fun x y w h => by
  have h3 := (hnext x hD1).1 y w h
  rw [put_comm2 _ _ _ n12, Array.setIfInBounds_comm _ _ hne] at h3
  exact h3
 have only2 : ∀ y w, I false undef true y w → wpAnyK P md ops Q k S (fuel + 1) (listed.setIfInBounds i2 true) (a.put (some d2) y) w := fun y w h =>
  wpAnyK_one hr2 h1 (hD.set m2) fun K hK => al1 true y w h K fun x w' h' => hK _ w' (hS _ _ _ _ _ h') fun _ _ => both x y w' h'
 refine ⟨fun y => ⟨fun x w h => both x y w h, fun w h => only2 y w h⟩, fun x w h => (hnext x hD1).2 w h, fun w h => ?_⟩
 refine wpAnyK_two hr0 h1 h2 hD (fun K hK => ?_) (fun K hK => ?_)
 · have h3 := al1 false undef w h K fun x w' h' => by
    rw [ha2]
    exact hK _ w' (hS _ _ _ _ _ h') fun _ _ => (hnext x hD1).2 w' h'
   rw [ha2] at h3
   exact h3
 · have h3 := al2 false undef w h K fun y w' h' => by
    rw [ha1]
    exact hK _ w' (hS _ _ _ _ _ h') fun _ _ => only2 y w' h'
   rw [ha1] at h3
   exact h3
end
end Go.Proofs.YtehflcnjnnhojaaGreat

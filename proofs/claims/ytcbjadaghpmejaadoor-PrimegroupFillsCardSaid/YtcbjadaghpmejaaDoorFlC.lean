/- Walk: the law PrimegroupFills. -/
import Derived.Test.YtcbjadaghpmejaaDoorFlB
import Derived.Test.YtcbjadaghpmejaaDoorAwL
set_option linter.unusedVariables false
set_option linter.unusedSimpArgs false
namespace Go.Proofs.YtcbjadaghpmejaaDoor
open Go.RowKit Go.Shelf
attribute [local go_sem] Oper.semAt_some

theorem small_any (O : ByteArray) (hO : O.size ≤ 9223372036854775807) : ∃ (x : Nat) (ok : Bool), (∀ w, Calls Tryd.prog 16 #[.string O] w (RetQ (.tuple #[.int .u64 x, .bool ok]) w)) ∧ (ok = true → x = num O) := by
  cases hv : nvalid O with
  | false => exact ⟨0, false, nat_Small_no O hO (.inl hv), fun h => by cases h⟩
  | true =>
    by_cases h8 : O.size ≤ 8
    · exact ⟨num O, true, nat_Small_yes O hv h8, fun _ => rfl⟩
    · exact ⟨0, false, nat_Small_no O hO (.inr ⟨hv, by omega⟩), fun h => by cases h⟩

theorem pfx_at' {α : Type} {L pre : List α} {x : α} (h : pre ++ [x] <+: L) : L[pre.length]? = some x := by
  obtain ⟨r, rfl⟩ := h
  rw [List.append_assoc, List.getElem?_append_right (Nat.le_refl _), Nat.sub_self]
  rfl
set_option maxRecDepth 100000 in
set_option maxHeartbeats 8000000 in
theorem walk_fills (M O g : ByteArray) (hO9 : O.size ≤ 9223372036854775807) (w : World) (ht : TabAt w) : Calls Tryd.prog 5 #[gV M O, .string g] w (Ret (.bool true) w) := by
  have HAW := Lib.hid awake9
  have HT := Lib.hid ht
  clear ht
  obtain ⟨x, ok, hsm, hx⟩ := small_any O hO9
  have HSM := Lib.hid hsm
  clear hsm hO9
  cases hf : few9 M O [g] with
  | false =>
    clear hx
    obtain ⟨W0, hW0⟩ : ∃ W0, ((w.alloc (.cells #[.string M, .string O] 24)).alloc (.cells #[.string g] 22)).alloc (.cells #[.bool false] 4) = W0 := ⟨_, rfl⟩
    have HX0 := Lib.hid (show Bx2 W0 w.heap.size (.string M) (.string O) 24 from by
      rw [← hW0]
      exact ((Bx2.new w _ _ _).next ((Below.refl _ _).alloc (Nat.le_refl _) _)).next ((Below.refl _ _).alloc (Nat.le_refl _) _))
    have HG0 := Lib.hid (show BoxS W0 (w.heap.size + 1) g from by
      rw [← hW0]
      have := BoxS.new (w.alloc (.cells #[.string M, .string O] 24)) g
      rw [World.size_alloc] at this
      exact this.kept ((Below.refl _ _).alloc (Nat.le_refl _) _) this.lt)
    have HR0 := Lib.hid (show Boxed W0 (w.heap.size + 1 + 1) 4 (.bool false) from by
      rw [← hW0]
      have := heap_alloc_new ((w.alloc (.cells #[.string M, .string O] 24)).alloc (.cells #[.string g] 22)) (.cells #[.bool false] 4)
      rw [World.size_alloc, World.size_alloc] at this
      exact this)
    have HB0 := Lib.hid (show Below w.heap.size w W0 from by
      rw [← hW0]
      exact (((Below.refl w.heap.size w).alloc (Nat.le_refl _) _).alloc (by simp) _).alloc (by simp; omega) _)
    obtain ⟨W1, hW1⟩ : ∃ W1, W0.alloc (.cells #[.string g] 22) = W1 := ⟨_, rfl⟩
    have hb1 : Below W0.heap.size W0 W1 := by rw [← hW1]; exact (Below.refl _ _).alloc (Nat.le_refl _) _
    have HS1 := Lib.hid (show SlN W1 (some ⟨W0.heap.size, 0, none⟩) 1 1 [g] from by
      rw [← hW1]
      exact sln_alloc W0 [g] 22 (by simp))
    have HFW := Lib.hid (law_Few M O [g] (some ⟨W0.heap.size, 0, none⟩) 1 1 (by omega) W1 HS1.out)
    have c0 := HX0.out.c0
    have c1 := HX0.out.c1
    have d0 := HG0.out.cell
    have r0 := HR0.out.cell
    have rf := HR0.out.frozen
    unfold gV at *
    refine (callsIn_wide (n := 3)).1 ?_
    refine callsIn_of_wp_marks Tryd.func5 rfl trivial ?_ rfl
    simp only [Tryd.ntmps5, List.size_toArray, List.length_cons, List.length_nil, Nat.reduceAdd, Nat.reduceSub, Array.replicate_succ, Array.replicate_zero, List.push_toArray, List.append_toArray, List.nil_append, List.cons_append]
    gi_wp2
    try rw [hW0]
    refine ⟨trivial, callsIn_wide.2 ((HSM.out _).mono ?_)⟩
    rintro e ww ⟨rfl, rfl⟩
    gi_wp2
    try rw [hW1]
    have HX1 := Lib.hid (HX0.out.next hb1)
    have HG1 := Lib.hid (HG0.out.kept hb1 HG0.out.lt)
    have HR1 := Lib.hid (show Boxed W1 (w.heap.size + 1 + 1) 4 (.bool false) from (hb1.block _ (block_lt HR0.out)).trans HR0.out)
    have HB1 := Lib.hid (HB0.out.trans (hb1.mono HB0.out.size))
    clear hb1
    clear c0 c1 d0 r0 rf
    have c0 := HX1.out.c0
    have c1 := HX1.out.c1
    have d0 := HG1.out.cell
    have r0 := HR1.out.cell
    have rf := HR1.out.frozen
    clear hW0 hW1
    rw [hf] at HFW
    clear hf
    refine ⟨trivial, callsIn_wide.2 (HFW.out.mono ?_)⟩
    rintro e w2 ⟨rfl, hb2⟩
    have HX2 := Lib.hid (HX1.out.next hb2)
    have HG2 := Lib.hid (HG1.out.kept hb2 HG1.out.lt)
    have HR2 := Lib.hid (show Boxed w2 (w.heap.size + 1 + 1) 4 (.bool false) from (hb2.block _ (block_lt HR1.out)).trans HR1.out)
    have HB2 := Lib.hid (HB1.out.trans (hb2.mono HB1.out.size))
    clear hb2
    clear c0 c1 d0 r0 rf
    have c0 := HX2.out.c0
    have c1 := HX2.out.c1
    have d0 := HG2.out.cell
    have r0 := HR2.out.cell
    have rf := HR2.out.frozen
    gi_wp2
    refine ⟨trivial, ?_⟩
    gi_wp2
    refine ⟨trivial, ?_⟩
    gi_wp2
    refine ⟨trivial, callsIn_wide.2 ((HAW.out _).mono ?_)⟩
    rintro e w3 ⟨rfl, hb3⟩
    have HX3 := Lib.hid (HX2.out.next hb3)
    have HG3 := Lib.hid (HG2.out.kept hb3 HG2.out.lt)
    have HR3 := Lib.hid (show Boxed w3 (w.heap.size + 1 + 1) 4 (.bool false) from (hb3.block _ (block_lt HR2.out)).trans HR2.out)
    have HB3 := Lib.hid (HB2.out.trans (hb3.mono HB2.out.size))
    clear hb3
    clear c0 c1 d0 r0 rf
    have c0 := HX3.out.c0
    have c1 := HX3.out.c1
    have d0 := HG3.out.cell
    have r0 := HR3.out.cell
    have rf := HR3.out.frozen
    gi_wp2
    have hq := (show Boxed (w3.setCell ⟨w.heap.size + 1 + 1, 0, none⟩ (.bool true)) (w.heap.size + 1 + 1) 4 (.bool true) from block_setCell HR3.out _).cell
    refine ⟨_, (by simp [results, Tryd.results5, go_sem, hq]), rfl, HB3.out.setCell (p := ⟨w.heap.size + 1 + 1, 0, none⟩) (by simp only []; omega) _⟩
  | true =>
    cases ok with
    | false =>
      clear hx
      obtain ⟨W0, hW0⟩ : ∃ W0, ((w.alloc (.cells #[.string M, .string O] 24)).alloc (.cells #[.string g] 22)).alloc (.cells #[.bool false] 4) = W0 := ⟨_, rfl⟩
      have HX0 := Lib.hid (show Bx2 W0 w.heap.size (.string M) (.string O) 24 from by
        rw [← hW0]
        exact ((Bx2.new w _ _ _).next ((Below.refl _ _).alloc (Nat.le_refl _) _)).next ((Below.refl _ _).alloc (Nat.le_refl _) _))
      have HG0 := Lib.hid (show BoxS W0 (w.heap.size + 1) g from by
        rw [← hW0]
        have := BoxS.new (w.alloc (.cells #[.string M, .string O] 24)) g
        rw [World.size_alloc] at this
        exact this.kept ((Below.refl _ _).alloc (Nat.le_refl _) _) this.lt)
      have HR0 := Lib.hid (show Boxed W0 (w.heap.size + 1 + 1) 4 (.bool false) from by
        rw [← hW0]
        have := heap_alloc_new ((w.alloc (.cells #[.string M, .string O] 24)).alloc (.cells #[.string g] 22)) (.cells #[.bool false] 4)
        rw [World.size_alloc, World.size_alloc] at this
        exact this)
      have HB0 := Lib.hid (show Below w.heap.size w W0 from by
        rw [← hW0]
        exact (((Below.refl w.heap.size w).alloc (Nat.le_refl _) _).alloc (by simp) _).alloc (by simp; omega) _)
      obtain ⟨W1, hW1⟩ : ∃ W1, W0.alloc (.cells #[.string g] 22) = W1 := ⟨_, rfl⟩
      have hb1 : Below W0.heap.size W0 W1 := by rw [← hW1]; exact (Below.refl _ _).alloc (Nat.le_refl _) _
      have HS1 := Lib.hid (show SlN W1 (some ⟨W0.heap.size, 0, none⟩) 1 1 [g] from by
        rw [← hW1]
        exact sln_alloc W0 [g] 22 (by simp))
      have HFW := Lib.hid (law_Few M O [g] (some ⟨W0.heap.size, 0, none⟩) 1 1 (by omega) W1 HS1.out)
      have c0 := HX0.out.c0
      have c1 := HX0.out.c1
      have d0 := HG0.out.cell
      have r0 := HR0.out.cell
      have rf := HR0.out.frozen
      unfold gV at *
      refine (callsIn_wide (n := 3)).1 ?_
      refine callsIn_of_wp_marks Tryd.func5 rfl trivial ?_ rfl
      simp only [Tryd.ntmps5, List.size_toArray, List.length_cons, List.length_nil, Nat.reduceAdd, Nat.reduceSub, Array.replicate_succ, Array.replicate_zero, List.push_toArray, List.append_toArray, List.nil_append, List.cons_append]
      gi_wp2
      try rw [hW0]
      refine ⟨trivial, callsIn_wide.2 ((HSM.out _).mono ?_)⟩
      rintro e ww ⟨rfl, rfl⟩
      gi_wp2
      try rw [hW1]
      have HX1 := Lib.hid (HX0.out.next hb1)
      have HG1 := Lib.hid (HG0.out.kept hb1 HG0.out.lt)
      have HR1 := Lib.hid (show Boxed W1 (w.heap.size + 1 + 1) 4 (.bool false) from (hb1.block _ (block_lt HR0.out)).trans HR0.out)
      have HB1 := Lib.hid (HB0.out.trans (hb1.mono HB0.out.size))
      clear hb1
      clear c0 c1 d0 r0 rf
      have c0 := HX1.out.c0
      have c1 := HX1.out.c1
      have d0 := HG1.out.cell
      have r0 := HR1.out.cell
      have rf := HR1.out.frozen
      clear hW0 hW1
      rw [hf] at HFW
      clear hf
      refine ⟨trivial, callsIn_wide.2 (HFW.out.mono ?_)⟩
      rintro e w2 ⟨rfl, hb2⟩
      have HX2 := Lib.hid (HX1.out.next hb2)
      have HG2 := Lib.hid (HG1.out.kept hb2 HG1.out.lt)
      have HR2 := Lib.hid (show Boxed w2 (w.heap.size + 1 + 1) 4 (.bool false) from (hb2.block _ (block_lt HR1.out)).trans HR1.out)
      have HB2 := Lib.hid (HB1.out.trans (hb2.mono HB1.out.size))
      clear hb2
      clear c0 c1 d0 r0 rf
      have c0 := HX2.out.c0
      have c1 := HX2.out.c1
      have d0 := HG2.out.cell
      have r0 := HR2.out.cell
      have rf := HR2.out.frozen
      gi_wp2
      refine ⟨trivial, ?_⟩
      gi_wp2
      refine ⟨trivial, ?_⟩
      gi_wp2
      refine ⟨trivial, callsIn_wide.2 ((HAW.out _).mono ?_)⟩
      rintro e w3 ⟨rfl, hb3⟩
      have HX3 := Lib.hid (HX2.out.next hb3)
      have HG3 := Lib.hid (HG2.out.kept hb3 HG2.out.lt)
      have HR3 := Lib.hid (show Boxed w3 (w.heap.size + 1 + 1) 4 (.bool false) from (hb3.block _ (block_lt HR2.out)).trans HR2.out)
      have HB3 := Lib.hid (HB2.out.trans (hb3.mono HB2.out.size))
      clear hb3
      clear c0 c1 d0 r0 rf
      have c0 := HX3.out.c0
      have c1 := HX3.out.c1
      have d0 := HG3.out.cell
      have r0 := HR3.out.cell
      have rf := HR3.out.frozen
      gi_wp2
      have hq := (show Boxed (w3.setCell ⟨w.heap.size + 1 + 1, 0, none⟩ (.bool true)) (w.heap.size + 1 + 1) 4 (.bool true) from block_setCell HR3.out _).cell
      refine ⟨_, (by simp [results, Tryd.results5, go_sem, hq]), rfl, HB3.out.setCell (p := ⟨w.heap.size + 1 + 1, 0, none⟩) (by simp only []; omega) _⟩
    | true =>
      obtain rfl := hx rfl
      obtain ⟨hM, hO, hall⟩ := few9_of hf
      have hg := hall g (by simp)
      by_cases h60 : num O ≤ 60
      · have HCK := Lib.hid (pg_Check M O (by omega) (by omega))
        have HGE := Lib.hid (pg_IsGen M O g hM (by omega) (by omega))
        obtain ⟨k, hk⟩ : ∃ k, chkG M O = k := ⟨_, rfl⟩
        obtain ⟨b, hb⟩ : ∃ b, genG M O g = b := ⟨_, rfl⟩
        rw [hk] at HCK
        rw [hb] at HGE
        by_cases hk0 : k = 0
        · cases b with
          | false =>
            obtain ⟨q, hq⟩ : ∃ q, num O = q := ⟨_, rfl⟩
            have h60' : decide ((60 : Int) < (q : Int)) = false := decide_eq_false (by omega)
            have h60'' : ¬ ((60 : Int) < (q : Int)) := by omega
            rw [hq] at HSM
            clear hx h60 hk hb hM hO hall hg hq
            subst hk0
            obtain ⟨W0, hW0⟩ : ∃ W0, ((w.alloc (.cells #[.string M, .string O] 24)).alloc (.cells #[.string g] 22)).alloc (.cells #[.bool false] 4) = W0 := ⟨_, rfl⟩
            have HX0 := Lib.hid (show Bx2 W0 w.heap.size (.string M) (.string O) 24 from by
              rw [← hW0]
              exact ((Bx2.new w _ _ _).next ((Below.refl _ _).alloc (Nat.le_refl _) _)).next ((Below.refl _ _).alloc (Nat.le_refl _) _))
            have HG0 := Lib.hid (show BoxS W0 (w.heap.size + 1) g from by
              rw [← hW0]
              have := BoxS.new (w.alloc (.cells #[.string M, .string O] 24)) g
              rw [World.size_alloc] at this
              exact this.kept ((Below.refl _ _).alloc (Nat.le_refl _) _) this.lt)
            have HR0 := Lib.hid (show Boxed W0 (w.heap.size + 1 + 1) 4 (.bool false) from by
              rw [← hW0]
              have := heap_alloc_new ((w.alloc (.cells #[.string M, .string O] 24)).alloc (.cells #[.string g] 22)) (.cells #[.bool false] 4)
              rw [World.size_alloc, World.size_alloc] at this
              exact this)
            have HB0 := Lib.hid (show Below w.heap.size w W0 from by
              rw [← hW0]
              exact (((Below.refl w.heap.size w).alloc (Nat.le_refl _) _).alloc (by simp) _).alloc (by simp; omega) _)
            obtain ⟨W1, hW1⟩ : ∃ W1, W0.alloc (.cells #[.string g] 22) = W1 := ⟨_, rfl⟩
            have hb1 : Below W0.heap.size W0 W1 := by rw [← hW1]; exact (Below.refl _ _).alloc (Nat.le_refl _) _
            have HS1 := Lib.hid (show SlN W1 (some ⟨W0.heap.size, 0, none⟩) 1 1 [g] from by
              rw [← hW1]
              exact sln_alloc W0 [g] 22 (by simp))
            have HFW := Lib.hid (law_Few M O [g] (some ⟨W0.heap.size, 0, none⟩) 1 1 (by omega) W1 HS1.out)
            have c0 := HX0.out.c0
            have c1 := HX0.out.c1
            have d0 := HG0.out.cell
            have r0 := HR0.out.cell
            have rf := HR0.out.frozen
            unfold gV at *
            refine (callsIn_wide (n := 3)).1 ?_
            refine callsIn_of_wp_marks Tryd.func5 rfl trivial ?_ rfl
            simp only [Tryd.ntmps5, List.size_toArray, List.length_cons, List.length_nil, Nat.reduceAdd, Nat.reduceSub, Array.replicate_succ, Array.replicate_zero, List.push_toArray, List.append_toArray, List.nil_append, List.cons_append]
            gi_wp2
            try rw [hW0]
            refine ⟨trivial, callsIn_wide.2 ((HSM.out _).mono ?_)⟩
            rintro e ww ⟨rfl, rfl⟩
            gi_wp2
            try rw [hW1]
            have HX1 := Lib.hid (HX0.out.next hb1)
            have HG1 := Lib.hid (HG0.out.kept hb1 HG0.out.lt)
            have HR1 := Lib.hid (show Boxed W1 (w.heap.size + 1 + 1) 4 (.bool false) from (hb1.block _ (block_lt HR0.out)).trans HR0.out)
            have HB1 := Lib.hid (HB0.out.trans (hb1.mono HB0.out.size))
            clear hb1
            clear c0 c1 d0 r0 rf
            have c0 := HX1.out.c0
            have c1 := HX1.out.c1
            have d0 := HG1.out.cell
            have r0 := HR1.out.cell
            have rf := HR1.out.frozen
            clear hW0 hW1
            rw [hf] at HFW
            clear hf
            refine ⟨trivial, callsIn_wide.2 (HFW.out.mono ?_)⟩
            rintro e w2 ⟨rfl, hb2⟩
            have HX2 := Lib.hid (HX1.out.next hb2)
            have HG2 := Lib.hid (HG1.out.kept hb2 HG1.out.lt)
            have HR2 := Lib.hid (show Boxed w2 (w.heap.size + 1 + 1) 4 (.bool false) from (hb2.block _ (block_lt HR1.out)).trans HR1.out)
            have HB2 := Lib.hid (HB1.out.trans (hb2.mono HB1.out.size))
            clear hb2
            clear c0 c1 d0 r0 rf
            have c0 := HX2.out.c0
            have c1 := HX2.out.c1
            have d0 := HG2.out.cell
            have r0 := HR2.out.cell
            have rf := HR2.out.frozen
            gi_wp2
            refine ⟨trivial, callsIn_wide.2 ((HCK.out _ (HT.out.kept HB2.out (Nat.le_refl _))).mono ?_)⟩
            rintro e w3 ⟨rfl, hb3⟩
            have HX3 := Lib.hid (HX2.out.next hb3)
            have HG3 := Lib.hid (HG2.out.kept hb3 HG2.out.lt)
            have HR3 := Lib.hid (show Boxed w3 (w.heap.size + 1 + 1) 4 (.bool false) from (hb3.block _ (block_lt HR2.out)).trans HR2.out)
            have HB3 := Lib.hid (HB2.out.trans (hb3.mono HB2.out.size))
            clear hb3
            clear c0 c1 d0 r0 rf
            have c0 := HX3.out.c0
            have c1 := HX3.out.c1
            have d0 := HG3.out.cell
            have r0 := HR3.out.cell
            have rf := HR3.out.frozen
            gi_wp2
            refine ⟨trivial, callsIn_wide.2 ((HGE.out _).mono ?_)⟩
            rintro e w4 ⟨rfl, hb4⟩
            have HX4 := Lib.hid (HX3.out.next hb4)
            have HG4 := Lib.hid (HG3.out.kept hb4 HG3.out.lt)
            have HR4 := Lib.hid (show Boxed w4 (w.heap.size + 1 + 1) 4 (.bool false) from (hb4.block _ (block_lt HR3.out)).trans HR3.out)
            have HB4 := Lib.hid (HB3.out.trans (hb4.mono HB3.out.size))
            clear hb4
            clear c0 c1 d0 r0 rf
            have c0 := HX4.out.c0
            have c1 := HX4.out.c1
            have d0 := HG4.out.cell
            have r0 := HR4.out.cell
            have rf := HR4.out.frozen
            gi_wp2
            refine ⟨trivial, callsIn_wide.2 ((HAW.out _).mono ?_)⟩
            rintro e w5 ⟨rfl, hb5⟩
            have HX5 := Lib.hid (HX4.out.next hb5)
            have HG5 := Lib.hid (HG4.out.kept hb5 HG4.out.lt)
            have HR5 := Lib.hid (show Boxed w5 (w.heap.size + 1 + 1) 4 (.bool false) from (hb5.block _ (block_lt HR4.out)).trans HR4.out)
            have HB5 := Lib.hid (HB4.out.trans (hb5.mono HB4.out.size))
            clear hb5
            clear c0 c1 d0 r0 rf
            have c0 := HX5.out.c0
            have c1 := HX5.out.c1
            have d0 := HG5.out.cell
            have r0 := HR5.out.cell
            have rf := HR5.out.frozen
            gi_wp2
            have hq := (show Boxed (w5.setCell ⟨w.heap.size + 1 + 1, 0, none⟩ (.bool true)) (w.heap.size + 1 + 1) 4 (.bool true) from block_setCell HR5.out _).cell
            refine ⟨_, (by simp [results, Tryd.results5, go_sem, hq]), rfl, HB5.out.setCell (p := ⟨w.heap.size + 1 + 1, 0, none⟩) (by simp only []; omega) _⟩
          | true =>
            have hG := good_of (by rw [hk, hk0]) hb h60
            have HLO := Lib.hid (fun (y : ByteArray) (hy : y.size ≤ 1000) => pg_Log M O g y 60 hM (by omega) (by omega) hy)
            have HHA := Lib.hid (fun (y : ByteArray) (hy : y.size ≤ 1000) => pg_Has M O y hM (by omega) hy)
            have HEL := Lib.hid (pg_Elements M O g)
            have HES := Lib.hid (fun k (hk : 1 ≤ k) D w hD hE => elements_stopm k hk M O g hM (by omega) (by omega) D w hD hE)
            rw [hG.elems, pwL_length] at HES
            have HL1 := Lib.hid (fun K (h : K < num O) => hG.log h)
            have HL2 := Lib.hid (fun K => hG.has K)
            have HL3 := Lib.hid (fun K (h : K < num O) => hG.last h)
            have HM8 := Lib.hid (num_lt8 (chkG_zero (hk.trans hk0)).1 hM)
            have HM2 := Lib.hid hG.hm
            obtain ⟨q, hq⟩ : ∃ q, num O = q := ⟨_, rfl⟩
            have h60' : decide ((60 : Int) < (q : Int)) = false := decide_eq_false (by omega)
            have h60'' : ¬ ((60 : Int) < (q : Int)) := by omega
            have HQ := Lib.hid (show q ≤ 60 by omega)
            rw [hq] at HSM HES HL1 HL3
            clear hx h60 hk hb hM hO hall hg hq hG
            subst hk0
            obtain ⟨W0, hW0⟩ : ∃ W0, ((w.alloc (.cells #[.string M, .string O] 24)).alloc (.cells #[.string g] 22)).alloc (.cells #[.bool false] 4) = W0 := ⟨_, rfl⟩
            have HX0 := Lib.hid (show Bx2 W0 w.heap.size (.string M) (.string O) 24 from by
              rw [← hW0]
              exact ((Bx2.new w _ _ _).next ((Below.refl _ _).alloc (Nat.le_refl _) _)).next ((Below.refl _ _).alloc (Nat.le_refl _) _))
            have HG0 := Lib.hid (show BoxS W0 (w.heap.size + 1) g from by
              rw [← hW0]
              have := BoxS.new (w.alloc (.cells #[.string M, .string O] 24)) g
              rw [World.size_alloc] at this
              exact this.kept ((Below.refl _ _).alloc (Nat.le_refl _) _) this.lt)
            have HR0 := Lib.hid (show Boxed W0 (w.heap.size + 1 + 1) 4 (.bool false) from by
              rw [← hW0]
              have := heap_alloc_new ((w.alloc (.cells #[.string M, .string O] 24)).alloc (.cells #[.string g] 22)) (.cells #[.bool false] 4)
              rw [World.size_alloc, World.size_alloc] at this
              exact this)
            have HB0 := Lib.hid (show Below w.heap.size w W0 from by
              rw [← hW0]
              exact (((Below.refl w.heap.size w).alloc (Nat.le_refl _) _).alloc (by simp) _).alloc (by simp; omega) _)
            obtain ⟨W1, hW1⟩ : ∃ W1, W0.alloc (.cells #[.string g] 22) = W1 := ⟨_, rfl⟩
            have hb1 : Below W0.heap.size W0 W1 := by rw [← hW1]; exact (Below.refl _ _).alloc (Nat.le_refl _) _
            have HS1 := Lib.hid (show SlN W1 (some ⟨W0.heap.size, 0, none⟩) 1 1 [g] from by
              rw [← hW1]
              exact sln_alloc W0 [g] 22 (by simp))
            have HFW := Lib.hid (law_Few M O [g] (some ⟨W0.heap.size, 0, none⟩) 1 1 (by omega) W1 HS1.out)
            have c0 := HX0.out.c0
            have c1 := HX0.out.c1
            have d0 := HG0.out.cell
            have r0 := HR0.out.cell
            have rf := HR0.out.frozen
            unfold gV at *
            refine (callsIn_wide (n := 3)).1 ?_
            refine callsIn_of_wp_marks Tryd.func5 rfl trivial ?_ rfl
            simp only [Tryd.ntmps5, List.size_toArray, List.length_cons, List.length_nil, Nat.reduceAdd, Nat.reduceSub, Array.replicate_succ, Array.replicate_zero, List.push_toArray, List.append_toArray, List.nil_append, List.cons_append]
            gi_wp2
            try rw [hW0]
            refine ⟨trivial, callsIn_wide.2 ((HSM.out _).mono ?_)⟩
            rintro e ww ⟨rfl, rfl⟩
            gi_wp2
            try rw [hW1]
            have HX1 := Lib.hid (HX0.out.next hb1)
            have HG1 := Lib.hid (HG0.out.kept hb1 HG0.out.lt)
            have HR1 := Lib.hid (show Boxed W1 (w.heap.size + 1 + 1) 4 (.bool false) from (hb1.block _ (block_lt HR0.out)).trans HR0.out)
            have HB1 := Lib.hid (HB0.out.trans (hb1.mono HB0.out.size))
            clear hb1
            clear c0 c1 d0 r0 rf
            have c0 := HX1.out.c0
            have c1 := HX1.out.c1
            have d0 := HG1.out.cell
            have r0 := HR1.out.cell
            have rf := HR1.out.frozen
            clear hW0 hW1
            rw [hf] at HFW
            clear hf
            refine ⟨trivial, callsIn_wide.2 (HFW.out.mono ?_)⟩
            rintro e w2 ⟨rfl, hb2⟩
            have HX2 := Lib.hid (HX1.out.next hb2)
            have HG2 := Lib.hid (HG1.out.kept hb2 HG1.out.lt)
            have HR2 := Lib.hid (show Boxed w2 (w.heap.size + 1 + 1) 4 (.bool false) from (hb2.block _ (block_lt HR1.out)).trans HR1.out)
            have HB2 := Lib.hid (HB1.out.trans (hb2.mono HB1.out.size))
            clear hb2
            clear c0 c1 d0 r0 rf
            have c0 := HX2.out.c0
            have c1 := HX2.out.c1
            have d0 := HG2.out.cell
            have r0 := HR2.out.cell
            have rf := HR2.out.frozen
            gi_wp2
            refine ⟨trivial, callsIn_wide.2 ((HCK.out _ (HT.out.kept HB2.out (Nat.le_refl _))).mono ?_)⟩
            rintro e w3 ⟨rfl, hb3⟩
            have HX3 := Lib.hid (HX2.out.next hb3)
            have HG3 := Lib.hid (HG2.out.kept hb3 HG2.out.lt)
            have HR3 := Lib.hid (show Boxed w3 (w.heap.size + 1 + 1) 4 (.bool false) from (hb3.block _ (block_lt HR2.out)).trans HR2.out)
            have HB3 := Lib.hid (HB2.out.trans (hb3.mono HB2.out.size))
            clear hb3
            clear c0 c1 d0 r0 rf
            have c0 := HX3.out.c0
            have c1 := HX3.out.c1
            have d0 := HG3.out.cell
            have r0 := HR3.out.cell
            have rf := HR3.out.frozen
            gi_wp2
            refine ⟨trivial, callsIn_wide.2 ((HGE.out _).mono ?_)⟩
            rintro e w4 ⟨rfl, hb4⟩
            have HX4 := Lib.hid (HX3.out.next hb4)
            have HG4 := Lib.hid (HG3.out.kept hb4 HG3.out.lt)
            have HR4 := Lib.hid (show Boxed w4 (w.heap.size + 1 + 1) 4 (.bool false) from (hb4.block _ (block_lt HR3.out)).trans HR3.out)
            have HB4 := Lib.hid (HB3.out.trans (hb4.mono HB3.out.size))
            clear hb4
            clear HS1 HFW HX0 HG0 HR0 HB0 HX1 HG1 HR1 HB1 HX2 HG2 HR2 HB2 HX3 HG3 HR3 HB3
            clear c0 c1 d0 r0 rf
            have hb5 : Below w4.heap.size w4 ((w4.alloc (.cells #[.int .i64 0] 3)).alloc (.cells #[.string ⟨#[]⟩] 22)) := ((Below.refl _ _).alloc (Nat.le_refl _) _).alloc (by simp) _
            have c0 := (HX4.out.next hb5).c0
            have c1 := (HX4.out.next hb5).c1
            have d0 := (HG4.out.kept hb5 HG4.out.lt).cell
            gi_wp2
            obtain ⟨V, hV⟩ : ∃ V, w4.heap.size = V := ⟨_, rfl⟩
            obtain ⟨W5, hW5⟩ : ∃ W5, (w4.alloc (.cells #[.int .i64 0] 3)).alloc (.cells #[.string ⟨#[]⟩] 22) = W5 := ⟨_, rfl⟩
            have hN5 : Boxed W5 V 3 (.int .i64 0) := by
              rw [← hW5, ← hV]
              have := heap_alloc_new w4 (.cells #[.int .i64 0] 3)
              exact ((Below.refl _ _).alloc (Nat.le_refl _) _).block _ (by simp) |>.trans this
            have hZ5 : BoxS W5 (V + 1) ⟨#[]⟩ := by
              rw [← hW5, ← hV]
              have := BoxS.new (w4.alloc (.cells #[.int .i64 0] 3)) ⟨#[]⟩
              rwa [World.size_alloc] at this
            have hs5 : W5.heap.size = V + 1 + 1 := by rw [← hW5, World.size_alloc, World.size_alloc, hV]
            have hwV : w.heap.size + 1 + 1 < V := by rw [← hV]; exact block_lt HR4.out
            rw [hW5] at hb5
            try rw [hW5]
            try rw [hV]
            clear c0 c1 d0
            have HX5 := Lib.hid (HX4.out.next hb5)
            have HG5 := Lib.hid (HG4.out.kept hb5 HG4.out.lt)
            have HR5 := Lib.hid (show Boxed W5 (w.heap.size + 1 + 1) 4 (.bool false) from (hb5.block _ (block_lt HR4.out)).trans HR4.out)
            have HB5 := Lib.hid (HB4.out.trans (hb5.mono HB4.out.size))
            clear hb5
            clear hW5 HX4 HG4 HR4 HB4
            clear hV
            refine ⟨trivial, callsIn_wide.2 ((HEL.out _).mono ?_)⟩
            rintro e w6 ⟨rfl, rfl⟩
            obtain ⟨W6, hW6⟩ : ∃ W6, (W5.alloc (.cells #[.string M, .string O] 24)).alloc (.cells #[.string g] 22) = W6 := ⟨_, rfl⟩
            have hb6 : Below W5.heap.size W5 W6 := by rw [← hW6]; exact ((Below.refl _ _).alloc (Nat.le_refl _) _).alloc (by simp) _
            have HN6 := Lib.hid (show Boxed W6 V 3 (.int .i64 0) from (hb6.block _ (by omega)).trans hN5)
            have HZ6 := Lib.hid (show BoxS W6 (V + 1) ⟨#[]⟩ from hZ5.kept hb6 hZ5.lt)
            have HD6 := Lib.hid (show Bx2 W6 (V + 1 + 1) (.string M) (.string O) 24 from by
              rw [← hW6, ← hs5]
              exact (Bx2.new W5 _ _ _).next ((Below.refl _ _).alloc (Nat.le_refl _) _))
            have HE6 := Lib.hid (show BoxS W6 (V + 1 + 1 + 1) g from by
              rw [← hW6, ← hs5]
              have := BoxS.new (W5.alloc (.cells #[.string M, .string O] 24)) g
              rwa [World.size_alloc] at this)
            have hs6 : W6.heap.size = V + 1 + 1 + 1 + 1 := by rw [← hW6, World.size_alloc, World.size_alloc, hs5]
            have HX6 := Lib.hid (HX5.out.next hb6)
            have HG6 := Lib.hid (HG5.out.kept hb6 HG5.out.lt)
            have HR6 := Lib.hid (show Boxed W6 (w.heap.size + 1 + 1) 4 (.bool false) from (hb6.block _ (block_lt HR5.out)).trans HR5.out)
            have HB6 := Lib.hid (HB5.out.trans (hb6.mono HB5.out.size))
            clear hb6
            rw [hW6, hs5]
            clear hW6 hN5 hZ5 hs5 HX5 HG5 HR5 HB5
            have hnil := fun (W : World) => (show (binOp BinOp.eql 48 (.func (.func 36) #[] #[.pointer (some ⟨V + 1 + 1, 0, none⟩), .pointer (some ⟨V + 1 + 1 + 1, 0, none⟩)]) .nilFunc).run Tryd.prog W = .ok (.bool false) W from by kernel_rfl)
            gi_wp2
            clear hnil
            refine wpIn_range_break rfl (by omega) (gf := 36) (lb := #[.pointer (some ⟨V + 1 + 1, 0, none⟩), .pointer (some ⟨V + 1 + 1 + 1, 0, none⟩)]) rfl trivial (enters_of Tryd.func36 (by kernel_rfl) rfl)
              (HES.out 2 (by omega) (V + 1 + 1) W6 HD6.out HE6.out) (fun h k => ⟨k.1.trans h.1, k.2.trans h.2⟩) (fun W l o o' hl _ _ _ => ⟨World.putObj_heap_other (by omega), World.putObj_heap_other (by omega)⟩) (Below.refl _ _) (fun _ => rfl)
              (fun pre W => (Boxed W V 3 (.int .i64 (pre.length : Nat)) ∧ Boxed W (V + 1) 22 (.string (lastK (num M) (num g) pre.length))) ∧ Below V W6 W)
              (fun pre W => False)
              (fun pre => ¬ pre <+: pwL (num M) (num g) q)
              (OwnFrom.and (Own.from (fun s X Y row hs hg hr => ⟨boxed_own V 3 (fun pre : List Nat => .int .i64 (pre.length : Nat)) s X Y row hs.1 hg hr, boxed_own (V + 1) 22 (fun pre : List Nat => .string (lastK (num M) (num g) pre.length)) s X Y row hs.2 hg hr⟩) _) (ownFrom_below (by omega) (by omega)))
              (Own.from (fun s X Y row hs hg hr => hs) _)
              ⟨⟨HN6.out, HZ6.out⟩, Below.refl _ _⟩
              (fun y => { tmps := #[.agg #[.string M, .string O], .string g, .pointer (some ⟨w.heap.size, 0, none⟩), .pointer (some ⟨w.heap.size + 1, 0, none⟩), .pointer (some ⟨w.heap.size + 1 + 1, 0, none⟩), .int .u64 ↑q, .bool true, .pointer (some ⟨V, 0, none⟩), .pointer (some ⟨V + 1, 0, none⟩), .func (.func 36) #[] #[.pointer (some ⟨V + 1 + 1, 0, none⟩), .pointer (some ⟨V + 1 + 1 + 1, 0, none⟩)], .string (nS (y % num M)), undef, undef, .tuple #[.int .u64 ↑q, .bool true], .pointer (some ⟨w.heap.size, 1, none⟩), .string O, .tuple #[.int .u64 ↑q, .bool true], .int .u64 ↑q, .bool true, .agg #[.string M, .string O], .string g, .slice (some ⟨W0.heap.size, 0, none⟩) 1 1, .bool true, .bool false, .bool false, .bool true, .bool false, .bool false, .bool false, .int .u64 ↑q, .bool false, .bool false, .bool false, .agg #[.string M, .string O], .int .i64 0, .bool false, .bool false, .bool false, .agg #[.string M, .string O], .string g, .bool true, .bool false, .bool false, undef, .agg #[.string M, .string O], .string g, .func (.func 36) #[] #[.pointer (some ⟨V + 1 + 1, 0, none⟩), .pointer (some ⟨V + 1 + 1 + 1, 0, none⟩)], .func (.func 36) #[] #[.pointer (some ⟨V + 1 + 1, 0, none⟩), .pointer (some ⟨V + 1 + 1 + 1, 0, none⟩)], .bool false, .func (.func 36) #[] #[.pointer (some ⟨V + 1 + 1, 0, none⟩), .pointer (some ⟨V + 1 + 1 + 1, 0, none⟩)], .string (nS (y % num M)), undef, undef, undef, undef, undef, undef, undef, undef, undef, undef, undef, undef, undef, undef, undef, undef, undef, undef, undef, undef, undef, undef, undef, undef, undef, undef, undef, undef, undef, undef, undef, undef, undef, undef, undef, undef, undef, undef, undef], defers := [] }) ?assign ?body (fun pre h hx => hx h) ?hend
            case assign =>
              intro l y W K hK
              gi_wp2
              exact hK
            case body =>
              rintro l pre y W ⟨⟨hN', hZ'⟩, hB'⟩ hlen
              obtain ⟨K, hK⟩ : ∃ K, pre.length = K := ⟨_, rfl⟩
              rw [hK] at hN' hZ' hlen
              have hszW : V + 1 + 1 + 1 + 1 ≤ W.heap.size := by rw [← hs6]; exact hB'.size
              obtain ⟨yy, hyy⟩ : ∃ yy, y % num M = yy := ⟨_, rfl⟩
              have hyM : yy < num M := by rw [← hyy]; exact Nat.mod_lt _ (by have := HM2.out; omega)
              have hsz8 : (nS yy).size ≤ 1000 := by have := nS_small_size (n := yy) (by have := HM8.out; omega); omega
              have HLY := Lib.hid (HLO.out (nS yy) hsz8)
              have HHY := Lib.hid (HHA.out (nS yy) hsz8)
              have HKK := Lib.hid hK
              have HLEN := Lib.hid hlen
              have HB' := Lib.hid hB'
              have HN' := Lib.hid hN'
              have HZ' := Lib.hid hZ'
              have HXW := Lib.hid (show Bx2 W w.heap.size (.string M) (.string O) 24 from (hB'.block _ (by omega)).trans HX6.out)
              have HGW := Lib.hid (show BoxS W (w.heap.size + 1) g from (hB'.block _ (by omega)).trans HG6.out)
              have HRW := Lib.hid (show Boxed W (w.heap.size + 1 + 1) 4 (.bool false) from (hB'.block _ (by omega)).trans HR6.out)
              have c0 := HXW.out.c0
              have c1 := HXW.out.c1
              have d0 := HGW.out.cell
              have HYY := Lib.hid hyy
              clear hsz8 hlen hB' hN' hZ' hK
              rw [hyy]
              clear hyy
              gi_wp2
              refine ⟨trivial, callsIn_wide.2 ((HLY.out _).mono ?_)⟩
              rintro e w7 ⟨rfl, hb7⟩
              have HB7 := Lib.hid hb7
              have HX7 := Lib.hid (HXW.out.next hb7)
              have HR7 := Lib.hid (show Boxed w7 (w.heap.size + 1 + 1) 4 (.bool false) from (hb7.block _ (by omega)).trans HRW.out)
              have HN7 := Lib.hid (show Boxed w7 V 3 (.int .i64 (K : Nat)) from (hb7.block _ (by omega)).trans HN'.out)
              have HZ7 := Lib.hid (show Boxed w7 (V + 1) 22 (.string (lastK (num M) (num g) K)) from (hb7.block _ (by omega)).trans HZ'.out)
              have hsz7 := Nat.le_trans hszW hb7.size
              clear c0 c1 d0 hb7
              have c0 := HX7.out.c0
              have c1 := HX7.out.c1
              have n0 := HN7.out.cell
              have nf := HN7.out.frozen
              have z0 := HZ7.out.cell
              have zf := HZ7.out.frozen
              have r0 := HR7.out.cell
              have rf := HR7.out.frozen
              by_cases hye : yy = num g ^ K % num M
              · subst hye
                have HLA := Lib.hid (HL3.out K HLEN.out)
                rw [HL1.out K HLEN.out]
                rw [HL2.out K] at HHY
                have hla := HLA.out
                obtain ⟨Y, hY⟩ : ∃ Y, nS (num g ^ K % num M) = Y := ⟨_, rfl⟩
                obtain ⟨Z, hZ⟩ : ∃ Z, lastK (num M) (num g) K = Z := ⟨_, rfl⟩
                rw [hY] at HHY hla ⊢
                rw [hZ] at hla z0
                have HY := Lib.hid hY
                have HZZ := Lib.hid hZ
                have hk60 : decide ((60 : Int) < (K : Int)) = false := decide_eq_false (by have := HQ.out; have := HLEN.out; omega)
                have hk60' : ¬ ((60 : Int) < (K : Int)) := by have := HQ.out; have := HLEN.out; omega
                clear hY hZ hyM
                gi_wp2
                refine ⟨trivial, callsIn_wide.2 ((HHY.out _).mono ?_)⟩
                rintro e w8 ⟨rfl, hb8⟩
                have HB8 := Lib.hid (HB7.out.trans (hb8.mono HB7.out.size))
                have HN8 := Lib.hid (show Boxed w8 V 3 (.int .i64 (K : Nat)) from (hb8.block _ (by omega)).trans HN7.out)
                have HZ8 := Lib.hid (show Boxed w8 (V + 1) 22 (.string Z) from (hb8.block _ (by omega)).trans (by have := HZ7.out; rwa [HZZ.out] at this))
                clear c0 c1 n0 nf z0 zf r0 rf hb8
                have n0 := HN8.out.cell
                have nf := HN8.out.frozen
                have z0 := HZ8.out.cell
                have zf := HZ8.out.frozen
                gi_wp2
                have hbx := HB8.out
                refine ⟨((KeepsOthers.of_below hbx).trans (KeepsOthers.setCell _ _ _)).trans (KeepsOthers.setCell _ _ _), ⟨(heap_setCell_other _ _ _ _ (by simp only []; omega)).trans ((heap_setCell_other _ _ _ _ (by simp only []; omega)).trans (hbx.block _ (by omega))), (heap_setCell_other _ _ _ _ (by simp only []; omega)).trans ((heap_setCell_other _ _ _ _ (by simp only []; omega)).trans (hbx.block _ (by omega)))⟩, ⟨?_, ?_⟩, ?_⟩
                · rw [List.length_append, List.length_singleton, HKK.out, Int.natCast_add]
                  exact block_setCell (show Boxed (w8.setCell ⟨V + 1, 0, none⟩ (.string Y)) V 3 (.int .i64 (K : Nat)) from (heap_setCell_other _ _ _ _ (by simp only []; omega)).trans HN8.out) _
                · rw [List.length_append, List.length_singleton, HKK.out, lastK_succ, HY.out]
                  exact (heap_setCell_other _ _ _ _ (by simp only []; omega)).trans (block_setCell HZ8.out _)
                · exact ((HB'.out.trans (hbx.mono (by omega))).setCell (p := ⟨V + 1, 0, none⟩) (by simp only []; omega) _).setCell (p := ⟨V, 0, none⟩) (Nat.le_refl _) _
              · have HNO := Lib.hid (show ¬ (pre ++ [y] <+: pwL (num M) (num g) q) from fun hp => by
                  have e := pfx_at' hp
                  rw [HKK.out, pwL_at HLEN.out] at e
                  have e2 := Option.some.inj e
                  rw [← HYY.out, ← e2, Nat.mod_mod] at hye
                  exact hye rfl)
                rcases logR_sound M O g (nS yy) 60 with hr | ⟨K', hK', hr⟩
                · rw [hr]
                  clear hr hyM hye
                  gi_wp2
                  refine ⟨trivial, ?_⟩
                  gi_wp2
                  exact ⟨(KeepsOthers.of_below HB7.out).trans (KeepsOthers.setCell _ _ _), .inr ⟨rfl, HNO.out⟩⟩
                · rw [hr]
                  rw [num_nS] at hK'
                  have hne : K' ≠ K := fun e => hye (by rw [← hK', e])
                  have hne1 : ((K' : Int) == (K : Int)) = false := by rw [beq_eq_false_iff_ne]; omega
                  have hne2 : ((K' : Int) != (K : Int)) = true := by rw [bne, hne1]; rfl
                  clear hr hyM hye hK' hne
                  gi_wp2
                  refine ⟨trivial, ?_⟩
                  gi_wp2
                  exact ⟨(KeepsOthers.of_below HB7.out).trans (KeepsOthers.setCell _ _ _), .inr ⟨rfl, HNO.out⟩⟩
            case hend =>
              intro D X hD hor hKD
              obtain ⟨hN', hB'⟩ : Boxed X V 3 (.int .i64 q) ∧ Below V W6 X := by
                rcases hor with ⟨xs, rfl, ⟨h1, _⟩, h4⟩ | ⟨pre, _, h⟩
                · rw [pwL_length] at h1
                  exact ⟨h1, h4⟩
                · exact h.elim
              clear hor
              have HKD := Lib.hid hKD
              have hszD : D < X.heap.size := block_lt hKD
              have hszX : V + 1 + 1 + 1 + 1 ≤ X.heap.size := by rw [← hs6]; exact hB'.size
              have hRX := (show Boxed X (w.heap.size + 1 + 1) 4 (.bool false) from (hB'.block _ (by omega)).trans HR6.out)
              have HRX := Lib.hid hRX
              have HBX := Lib.hid (HB6.out.trans (hB'.mono (by omega)))
              have HNX := Lib.hid hN'
              have n0 := HNX.out.cell
              have hwq : IntKind.u64.wrap (q : Int) = (q : Int) := u64_wrap q (by have := HQ.out; omega)
              clear hKD hN' hB' hRX
              gi_wp2
              refine ⟨trivial, callsIn_wide.2 ((HAW.out _).mono ?_)⟩
              rintro e w11 ⟨rfl, hb11⟩
              have HR11 := Lib.hid (show Boxed w11 (w.heap.size + 1 + 1) 4 (.bool false) from (hb11.block _ (by omega)).trans HRX.out)
              have HB11 := Lib.hid (HBX.out.trans (hb11.mono HBX.out.size))
              have HK11 := Lib.hid ((hb11.block D hszD).trans HKD.out)
              clear hb11 n0
              have r0 := HR11.out.cell
              have rf := HR11.out.frozen
              gi_wp2
              have hDne : D ≠ w.heap.size + 1 + 1 := by omega
              have k1 : (w11.setCell ⟨w.heap.size + 1 + 1, 0, none⟩ (.bool true)).heap[D]? = some (.deferred (some [])) := (heap_setCell_other _ _ _ _ (by simp only []; omega)).trans HK11.out
              have hbx : Boxed (w11.setCell ⟨w.heap.size + 1 + 1, 0, none⟩ (.bool true)) (w.heap.size + 1 + 1) 4 (.bool true) := block_setCell HR11.out _
              have hbb := HB11.out.setCell (p := ⟨w.heap.size + 1 + 1, 0, none⟩) (by simp only []; omega) (.bool true)
              obtain ⟨W12, hW12⟩ : ∃ W12, w11.setCell ⟨w.heap.size + 1 + 1, 0, none⟩ (.bool true) = W12 := ⟨_, rfl⟩
              rw [hW12] at k1 hbx hbb ⊢
              refine ⟨by simp, .inl ⟨_, _, rfl, run_takeDeferred k1, ?_⟩⟩
              have hq : (W12.putObj D (.deferred none)).cell? ⟨w.heap.size + 1 + 1, 0, none⟩ = some (.bool true) := by
                rw [World.cell?_of_block (w := W12) (World.putObj_heap_other (by simp only []; omega))]
                exact hbx.cell
              have hb1 := belowK_b (w := w) (Nat.le_refl _) W12 D _ (.deferred none) (by omega) k1 rfl rfl
              refine ⟨.bool true, ?_, rfl, hbb.trans hb1⟩
              simp [results, Tryd.results5, go_sem, hq]
        · obtain ⟨q, hq⟩ : ∃ q, num O = q := ⟨_, rfl⟩
          have h60' : decide ((60 : Int) < (q : Int)) = false := decide_eq_false (by omega)
          have h60'' : ¬ ((60 : Int) < (q : Int)) := by omega
          have hk1 : (k == 0) = false := by rw [beq_eq_false_iff_ne]; exact hk0
          have hk2 : (k != 0) = true := by rw [bne, hk1]; rfl
          rw [hq] at HSM
          clear hx h60 hk hb hM hO hall hg hq HGE
          obtain ⟨W0, hW0⟩ : ∃ W0, ((w.alloc (.cells #[.string M, .string O] 24)).alloc (.cells #[.string g] 22)).alloc (.cells #[.bool false] 4) = W0 := ⟨_, rfl⟩
          have HX0 := Lib.hid (show Bx2 W0 w.heap.size (.string M) (.string O) 24 from by
            rw [← hW0]
            exact ((Bx2.new w _ _ _).next ((Below.refl _ _).alloc (Nat.le_refl _) _)).next ((Below.refl _ _).alloc (Nat.le_refl _) _))
          have HG0 := Lib.hid (show BoxS W0 (w.heap.size + 1) g from by
            rw [← hW0]
            have := BoxS.new (w.alloc (.cells #[.string M, .string O] 24)) g
            rw [World.size_alloc] at this
            exact this.kept ((Below.refl _ _).alloc (Nat.le_refl _) _) this.lt)
          have HR0 := Lib.hid (show Boxed W0 (w.heap.size + 1 + 1) 4 (.bool false) from by
            rw [← hW0]
            have := heap_alloc_new ((w.alloc (.cells #[.string M, .string O] 24)).alloc (.cells #[.string g] 22)) (.cells #[.bool false] 4)
            rw [World.size_alloc, World.size_alloc] at this
            exact this)
          have HB0 := Lib.hid (show Below w.heap.size w W0 from by
            rw [← hW0]
            exact (((Below.refl w.heap.size w).alloc (Nat.le_refl _) _).alloc (by simp) _).alloc (by simp; omega) _)
          obtain ⟨W1, hW1⟩ : ∃ W1, W0.alloc (.cells #[.string g] 22) = W1 := ⟨_, rfl⟩
          have hb1 : Below W0.heap.size W0 W1 := by rw [← hW1]; exact (Below.refl _ _).alloc (Nat.le_refl _) _
          have HS1 := Lib.hid (show SlN W1 (some ⟨W0.heap.size, 0, none⟩) 1 1 [g] from by
            rw [← hW1]
            exact sln_alloc W0 [g] 22 (by simp))
          have HFW := Lib.hid (law_Few M O [g] (some ⟨W0.heap.size, 0, none⟩) 1 1 (by omega) W1 HS1.out)
          have c0 := HX0.out.c0
          have c1 := HX0.out.c1
          have d0 := HG0.out.cell
          have r0 := HR0.out.cell
          have rf := HR0.out.frozen
          unfold gV at *
          refine (callsIn_wide (n := 3)).1 ?_
          refine callsIn_of_wp_marks Tryd.func5 rfl trivial ?_ rfl
          simp only [Tryd.ntmps5, List.size_toArray, List.length_cons, List.length_nil, Nat.reduceAdd, Nat.reduceSub, Array.replicate_succ, Array.replicate_zero, List.push_toArray, List.append_toArray, List.nil_append, List.cons_append]
          gi_wp2
          try rw [hW0]
          refine ⟨trivial, callsIn_wide.2 ((HSM.out _).mono ?_)⟩
          rintro e ww ⟨rfl, rfl⟩
          gi_wp2
          try rw [hW1]
          have HX1 := Lib.hid (HX0.out.next hb1)
          have HG1 := Lib.hid (HG0.out.kept hb1 HG0.out.lt)
          have HR1 := Lib.hid (show Boxed W1 (w.heap.size + 1 + 1) 4 (.bool false) from (hb1.block _ (block_lt HR0.out)).trans HR0.out)
          have HB1 := Lib.hid (HB0.out.trans (hb1.mono HB0.out.size))
          clear hb1
          clear c0 c1 d0 r0 rf
          have c0 := HX1.out.c0
          have c1 := HX1.out.c1
          have d0 := HG1.out.cell
          have r0 := HR1.out.cell
          have rf := HR1.out.frozen
          clear hW0 hW1
          rw [hf] at HFW
          clear hf
          refine ⟨trivial, callsIn_wide.2 (HFW.out.mono ?_)⟩
          rintro e w2 ⟨rfl, hb2⟩
          have HX2 := Lib.hid (HX1.out.next hb2)
          have HG2 := Lib.hid (HG1.out.kept hb2 HG1.out.lt)
          have HR2 := Lib.hid (show Boxed w2 (w.heap.size + 1 + 1) 4 (.bool false) from (hb2.block _ (block_lt HR1.out)).trans HR1.out)
          have HB2 := Lib.hid (HB1.out.trans (hb2.mono HB1.out.size))
          clear hb2
          clear c0 c1 d0 r0 rf
          have c0 := HX2.out.c0
          have c1 := HX2.out.c1
          have d0 := HG2.out.cell
          have r0 := HR2.out.cell
          have rf := HR2.out.frozen
          gi_wp2
          refine ⟨trivial, callsIn_wide.2 ((HCK.out _ (HT.out.kept HB2.out (Nat.le_refl _))).mono ?_)⟩
          rintro e w3 ⟨rfl, hb3⟩
          have HX3 := Lib.hid (HX2.out.next hb3)
          have HG3 := Lib.hid (HG2.out.kept hb3 HG2.out.lt)
          have HR3 := Lib.hid (show Boxed w3 (w.heap.size + 1 + 1) 4 (.bool false) from (hb3.block _ (block_lt HR2.out)).trans HR2.out)
          have HB3 := Lib.hid (HB2.out.trans (hb3.mono HB2.out.size))
          clear hb3
          clear c0 c1 d0 r0 rf
          have c0 := HX3.out.c0
          have c1 := HX3.out.c1
          have d0 := HG3.out.cell
          have r0 := HR3.out.cell
          have rf := HR3.out.frozen
          gi_wp2
          refine ⟨trivial, ?_⟩
          gi_wp2
          refine ⟨trivial, callsIn_wide.2 ((HAW.out _).mono ?_)⟩
          rintro e w4 ⟨rfl, hb4⟩
          have HX4 := Lib.hid (HX3.out.next hb4)
          have HG4 := Lib.hid (HG3.out.kept hb4 HG3.out.lt)
          have HR4 := Lib.hid (show Boxed w4 (w.heap.size + 1 + 1) 4 (.bool false) from (hb4.block _ (block_lt HR3.out)).trans HR3.out)
          have HB4 := Lib.hid (HB3.out.trans (hb4.mono HB3.out.size))
          clear hb4
          clear c0 c1 d0 r0 rf
          have c0 := HX4.out.c0
          have c1 := HX4.out.c1
          have d0 := HG4.out.cell
          have r0 := HR4.out.cell
          have rf := HR4.out.frozen
          gi_wp2
          have hq := (show Boxed (w4.setCell ⟨w.heap.size + 1 + 1, 0, none⟩ (.bool true)) (w.heap.size + 1 + 1) 4 (.bool true) from block_setCell HR4.out _).cell
          refine ⟨_, (by simp [results, Tryd.results5, go_sem, hq]), rfl, HB4.out.setCell (p := ⟨w.heap.size + 1 + 1, 0, none⟩) (by simp only []; omega) _⟩
      · obtain ⟨q, hq⟩ : ∃ q, num O = q := ⟨_, rfl⟩
        have h60' : decide ((60 : Int) < (q : Int)) = true := decide_eq_true (by omega)
        have h60'' : (60 : Int) < (q : Int) := by omega
        rw [hq] at HSM
        clear hx h60 hM hO hall hg hq
        obtain ⟨W0, hW0⟩ : ∃ W0, ((w.alloc (.cells #[.string M, .string O] 24)).alloc (.cells #[.string g] 22)).alloc (.cells #[.bool false] 4) = W0 := ⟨_, rfl⟩
        have HX0 := Lib.hid (show Bx2 W0 w.heap.size (.string M) (.string O) 24 from by
          rw [← hW0]
          exact ((Bx2.new w _ _ _).next ((Below.refl _ _).alloc (Nat.le_refl _) _)).next ((Below.refl _ _).alloc (Nat.le_refl _) _))
        have HG0 := Lib.hid (show BoxS W0 (w.heap.size + 1) g from by
          rw [← hW0]
          have := BoxS.new (w.alloc (.cells #[.string M, .string O] 24)) g
          rw [World.size_alloc] at this
          exact this.kept ((Below.refl _ _).alloc (Nat.le_refl _) _) this.lt)
        have HR0 := Lib.hid (show Boxed W0 (w.heap.size + 1 + 1) 4 (.bool false) from by
          rw [← hW0]
          have := heap_alloc_new ((w.alloc (.cells #[.string M, .string O] 24)).alloc (.cells #[.string g] 22)) (.cells #[.bool false] 4)
          rw [World.size_alloc, World.size_alloc] at this
          exact this)
        have HB0 := Lib.hid (show Below w.heap.size w W0 from by
          rw [← hW0]
          exact (((Below.refl w.heap.size w).alloc (Nat.le_refl _) _).alloc (by simp) _).alloc (by simp; omega) _)
        obtain ⟨W1, hW1⟩ : ∃ W1, W0.alloc (.cells #[.string g] 22) = W1 := ⟨_, rfl⟩
        have hb1 : Below W0.heap.size W0 W1 := by rw [← hW1]; exact (Below.refl _ _).alloc (Nat.le_refl _) _
        have HS1 := Lib.hid (show SlN W1 (some ⟨W0.heap.size, 0, none⟩) 1 1 [g] from by
          rw [← hW1]
          exact sln_alloc W0 [g] 22 (by simp))
        have HFW := Lib.hid (law_Few M O [g] (some ⟨W0.heap.size, 0, none⟩) 1 1 (by omega) W1 HS1.out)
        have c0 := HX0.out.c0
        have c1 := HX0.out.c1
        have d0 := HG0.out.cell
        have r0 := HR0.out.cell
        have rf := HR0.out.frozen
        unfold gV at *
        refine (callsIn_wide (n := 3)).1 ?_
        refine callsIn_of_wp_marks Tryd.func5 rfl trivial ?_ rfl
        simp only [Tryd.ntmps5, List.size_toArray, List.length_cons, List.length_nil, Nat.reduceAdd, Nat.reduceSub, Array.replicate_succ, Array.replicate_zero, List.push_toArray, List.append_toArray, List.nil_append, List.cons_append]
        gi_wp2
        try rw [hW0]
        refine ⟨trivial, callsIn_wide.2 ((HSM.out _).mono ?_)⟩
        rintro e ww ⟨rfl, rfl⟩
        gi_wp2
        try rw [hW1]
        have HX1 := Lib.hid (HX0.out.next hb1)
        have HG1 := Lib.hid (HG0.out.kept hb1 HG0.out.lt)
        have HR1 := Lib.hid (show Boxed W1 (w.heap.size + 1 + 1) 4 (.bool false) from (hb1.block _ (block_lt HR0.out)).trans HR0.out)
        have HB1 := Lib.hid (HB0.out.trans (hb1.mono HB0.out.size))
        clear hb1
        clear c0 c1 d0 r0 rf
        have c0 := HX1.out.c0
        have c1 := HX1.out.c1
        have d0 := HG1.out.cell
        have r0 := HR1.out.cell
        have rf := HR1.out.frozen
        clear hW0 hW1
        rw [hf] at HFW
        clear hf
        refine ⟨trivial, callsIn_wide.2 (HFW.out.mono ?_)⟩
        rintro e w2 ⟨rfl, hb2⟩
        have HX2 := Lib.hid (HX1.out.next hb2)
        have HG2 := Lib.hid (HG1.out.kept hb2 HG1.out.lt)
        have HR2 := Lib.hid (show Boxed w2 (w.heap.size + 1 + 1) 4 (.bool false) from (hb2.block _ (block_lt HR1.out)).trans HR1.out)
        have HB2 := Lib.hid (HB1.out.trans (hb2.mono HB1.out.size))
        clear hb2
        clear c0 c1 d0 r0 rf
        have c0 := HX2.out.c0
        have c1 := HX2.out.c1
        have d0 := HG2.out.cell
        have r0 := HR2.out.cell
        have rf := HR2.out.frozen
        gi_wp2
        refine ⟨trivial, ?_⟩
        gi_wp2
        refine ⟨trivial, ?_⟩
        gi_wp2
        refine ⟨trivial, callsIn_wide.2 ((HAW.out _).mono ?_)⟩
        rintro e w3 ⟨rfl, hb3⟩
        have HX3 := Lib.hid (HX2.out.next hb3)
        have HG3 := Lib.hid (HG2.out.kept hb3 HG2.out.lt)
        have HR3 := Lib.hid (show Boxed w3 (w.heap.size + 1 + 1) 4 (.bool false) from (hb3.block _ (block_lt HR2.out)).trans HR2.out)
        have HB3 := Lib.hid (HB2.out.trans (hb3.mono HB2.out.size))
        clear hb3
        clear c0 c1 d0 r0 rf
        have c0 := HX3.out.c0
        have c1 := HX3.out.c1
        have d0 := HG3.out.cell
        have r0 := HR3.out.cell
        have rf := HR3.out.frozen
        gi_wp2
        have hq := (show Boxed (w3.setCell ⟨w.heap.size + 1 + 1, 0, none⟩ (.bool true)) (w.heap.size + 1 + 1) 4 (.bool true) from block_setCell HR3.out _).cell
        refine ⟨_, (by simp [results, Tryd.results5, go_sem, hq]), rfl, HB3.out.setCell (p := ⟨w.heap.size + 1 + 1, 0, none⟩) (by simp only []; omega) _⟩
end Go.Proofs.YtcbjadaghpmejaaDoor

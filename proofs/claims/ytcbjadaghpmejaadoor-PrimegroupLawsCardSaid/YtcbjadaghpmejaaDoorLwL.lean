/- Walk: the law PrimegroupLaws. -/
import Derived.Test.YtcbjadaghpmejaaDoorLwF
import Derived.Test.YtcbjadaghpmejaaDoorAwL
import Derived.RegionTactic
set_option linter.unusedVariables false
set_option linter.unusedSimpArgs false
namespace Go.Proofs.YtcbjadaghpmejaaDoor
open Go.RowKit

/-- Block B holds eight values. -/
def Bx8 (W : World) (B : Nat) (M O a b : ByteArray) (dn : Bool) (ds : ByteArray) (en : Bool) (es : ByteArray) : Prop := W.heap[B]? = some (.cells #[.string M, .string O, .string a, .string b, .bool dn, .string ds, .bool en, .string es] 33 (0, 0))
theorem Bx8.next {W W' : World} {B : Nat} {M O a b ds es : ByteArray} {dn en : Bool} (h : Bx8 W B M O a b dn ds en es) (hb : Below W.heap.size W W') : Bx8 W' B M O a b dn ds en es := (hb.block B (block_lt h)).trans h
theorem Bx8.cells {W : World} {B : Nat} {M O a b ds es : ByteArray} {dn en : Bool} (h : Bx8 W B M O a b dn ds en es) : W.cell? ⟨B, 0, none⟩ = some (.string M) ∧ W.cell? ⟨B, 1, none⟩ = some (.string O) ∧ W.cell? ⟨B, 2, none⟩ = some (.string a) ∧ W.cell? ⟨B, 3, none⟩ = some (.string b) ∧ W.cell? ⟨B, 4, none⟩ = some (.bool dn) ∧ W.cell? ⟨B, 5, none⟩ = some (.string ds) ∧ W.cell? ⟨B, 6, none⟩ = some (.bool en) ∧ W.cell? ⟨B, 7, none⟩ = some (.string es) := by
  refine ⟨?_, ?_, ?_, ?_, ?_, ?_, ?_, ?_⟩ <;> rw [Lib.cell_of_heap h] <;> rfl

/-- The argument. -/
def twV (M O a b : ByteArray) (dn : Bool) (ds : ByteArray) (en : Bool) (es : ByteArray) : Value := .agg #[.string M, .string O, .string a, .string b, .bool dn, .string ds, .bool en, .string es]
set_option maxRecDepth 100000 in
set_option maxHeartbeats 8000000 in
theorem walk_laws_out (M O a b : ByteArray) (dn : Bool) (ds : ByteArray) (en : Bool) (es : ByteArray) (w : World)
    (hf : few9 M O [a, b, ds, es] = false ∨ (few9 M O [a, b, ds, es] = true ∧ (zvalid dn ds = false ∨ (zvalid dn ds = true ∧ (zvalid en es = false ∨ (zvalid en es = true ∧ (hasG M O a = false ∨ (hasG M O a = true ∧ hasG M O b = false)))))))) :
    Calls Tryd.prog 4 #[twV M O a b dn ds en es] w (Ret (.bool true) w) := by
  rcases hf with hf | ⟨hf, hf2⟩
  · skip
    have HAW := Lib.hid awake9
    obtain ⟨W0, hW0⟩ : ∃ W0, (((w.alloc (.cells #[.string M, .string O, .string a, .string b, .bool dn, .string ds, .bool en, .string es] 33)).alloc (.cells #[.string M, .string O] 24)).alloc (.cells #[.string a, .string b, .string ds, .string es] 22)).drew = W0 := ⟨_, rfl⟩
    have HT0 := Lib.hid (show Bx8 W0 w.heap.size M O a b dn ds en es from by
      rw [← hW0]
      have h0 : Bx8 (w.alloc (.cells #[.string M, .string O, .string a, .string b, .bool dn, .string ds, .bool en, .string es] 33)) w.heap.size M O a b dn ds en es := heap_alloc_new _ _
      exact (h0.next ((Below.refl _ _).alloc (Nat.le_refl _) _)).next ((Below.refl _ _).alloc (Nat.le_refl _) _).drew)
    have HG0 := Lib.hid (show Bx2 W0 (w.heap.size + 1) (.string M) (.string O) 24 from by
      rw [← hW0]
      have := Bx2.new (w.alloc (.cells #[.string M, .string O, .string a, .string b, .bool dn, .string ds, .bool en, .string es] 33)) (.string M) (.string O) 24
      rw [World.size_alloc] at this
      exact this.next ((Below.refl _ _).alloc (Nat.le_refl _) _).drew)
    have HS0 := Lib.hid (show SlN W0 (some ⟨w.heap.size + 1 + 1, 0, none⟩) 4 4 [a, b, ds, es] from by
      rw [← hW0]
      have := sln_alloc ((w.alloc (.cells #[.string M, .string O, .string a, .string b, .bool dn, .string ds, .bool en, .string es] 33)).alloc (.cells #[.string M, .string O] 24)) [a, b, ds, es] 22 (by simp)
      rw [World.size_alloc, World.size_alloc] at this
      exact this.kept (B := ((((w.alloc (.cells #[.string M, .string O, .string a, .string b, .bool dn, .string ds, .bool en, .string es] 33)).alloc (.cells #[.string M, .string O] 24)).alloc (.cells #[.string a, .string b, .string ds, .string es] 22))).heap.size) (Below.refl _ _).drew (Nat.le_refl _))
    have HB0 := Lib.hid (show Below w.heap.size w W0 from by
      rw [← hW0]
      exact ((((Below.refl w.heap.size w).alloc (Nat.le_refl _) _).alloc (by simp) _).alloc (by simp; omega) _).drew)
    have HFW := Lib.hid (law_Few M O [a, b, ds, es] (some ⟨w.heap.size + 1 + 1, 0, none⟩) 4 4 (by omega) W0 HS0.out)
    have HW0 := Lib.hid hW0
    clear hW0
    unfold twV gV at *
    rw [hf] at HFW
    clear hf
    go_enter Tryd.func4, Tryd.ntmps4
    go_wp2
    go_region
    go_wp2_with fail
    rw [HW0.out]
    refine (HFW.out).mono ?_
    rintro e w1 ⟨rfl, hb1⟩
    have HT1 := Lib.hid (HT0.out.next hb1)
    have HG1 := Lib.hid (HG0.out.next hb1)
    have HB1 := Lib.hid (HB0.out.trans (hb1.mono HB0.out.size))
    clear hb1
    obtain ⟨t0, t1, t2, t3, t4, t5, t6, t7⟩ := HT1.out.cells
    have g0 := HG1.out.c0
    have g1 := HG1.out.c1
    go_wp2_with fail
    refine (HAW.out _).mono ?_
    rintro e w9 ⟨rfl, hb9⟩
    have HB9 := Lib.hid (HB1.out.trans (hb9.mono HB1.out.size))
    clear hb9
    clear t0 t1 t2 t3 t4 t5 t6 t7 g0 g1
    go_wp2
    go_ret
    exact ⟨rfl, HB9.out⟩
  · obtain ⟨z1, z2, z3⟩ := few9_of hf
    have z4 := z3 a (by simp)
    have z5 := z3 b (by simp)
    have z6 := z3 ds (by simp)
    have z7 := z3 es (by simp)
    have HVD := Lib.hid (int_Valid dn ds (by omega))
    have HVE := Lib.hid (int_Valid en es (by omega))
    have HHA := Lib.hid (pg_Has M O a z1 (by omega) (by omega))
    have HHB := Lib.hid (pg_Has M O b z1 (by omega) (by omega))
    unfold zV at HVD HVE
    clear z1 z2 z3 z4 z5 z6 z7
    rcases hf2 with hd | ⟨hd, hf3⟩
    · skip
      have HAW := Lib.hid awake9
      obtain ⟨W0, hW0⟩ : ∃ W0, (((w.alloc (.cells #[.string M, .string O, .string a, .string b, .bool dn, .string ds, .bool en, .string es] 33)).alloc (.cells #[.string M, .string O] 24)).alloc (.cells #[.string a, .string b, .string ds, .string es] 22)).drew = W0 := ⟨_, rfl⟩
      have HT0 := Lib.hid (show Bx8 W0 w.heap.size M O a b dn ds en es from by
        rw [← hW0]
        have h0 : Bx8 (w.alloc (.cells #[.string M, .string O, .string a, .string b, .bool dn, .string ds, .bool en, .string es] 33)) w.heap.size M O a b dn ds en es := heap_alloc_new _ _
        exact (h0.next ((Below.refl _ _).alloc (Nat.le_refl _) _)).next ((Below.refl _ _).alloc (Nat.le_refl _) _).drew)
      have HG0 := Lib.hid (show Bx2 W0 (w.heap.size + 1) (.string M) (.string O) 24 from by
        rw [← hW0]
        have := Bx2.new (w.alloc (.cells #[.string M, .string O, .string a, .string b, .bool dn, .string ds, .bool en, .string es] 33)) (.string M) (.string O) 24
        rw [World.size_alloc] at this
        exact this.next ((Below.refl _ _).alloc (Nat.le_refl _) _).drew)
      have HS0 := Lib.hid (show SlN W0 (some ⟨w.heap.size + 1 + 1, 0, none⟩) 4 4 [a, b, ds, es] from by
        rw [← hW0]
        have := sln_alloc ((w.alloc (.cells #[.string M, .string O, .string a, .string b, .bool dn, .string ds, .bool en, .string es] 33)).alloc (.cells #[.string M, .string O] 24)) [a, b, ds, es] 22 (by simp)
        rw [World.size_alloc, World.size_alloc] at this
        exact this.kept (B := ((((w.alloc (.cells #[.string M, .string O, .string a, .string b, .bool dn, .string ds, .bool en, .string es] 33)).alloc (.cells #[.string M, .string O] 24)).alloc (.cells #[.string a, .string b, .string ds, .string es] 22))).heap.size) (Below.refl _ _).drew (Nat.le_refl _))
      have HB0 := Lib.hid (show Below w.heap.size w W0 from by
        rw [← hW0]
        exact ((((Below.refl w.heap.size w).alloc (Nat.le_refl _) _).alloc (by simp) _).alloc (by simp; omega) _).drew)
      have HFW := Lib.hid (law_Few M O [a, b, ds, es] (some ⟨w.heap.size + 1 + 1, 0, none⟩) 4 4 (by omega) W0 HS0.out)
      have HW0 := Lib.hid hW0
      clear hW0
      unfold twV gV at *
      rw [hf] at HFW
      rw [hd] at HVD
      clear hf hd
      go_enter Tryd.func4, Tryd.ntmps4
      go_wp2
      go_region
      go_wp2_with fail
      rw [HW0.out]
      refine (HFW.out).mono ?_
      rintro e w1 ⟨rfl, hb1⟩
      have HT1 := Lib.hid (HT0.out.next hb1)
      have HG1 := Lib.hid (HG0.out.next hb1)
      have HB1 := Lib.hid (HB0.out.trans (hb1.mono HB0.out.size))
      clear hb1
      obtain ⟨t0, t1, t2, t3, t4, t5, t6, t7⟩ := HT1.out.cells
      have g0 := HG1.out.c0
      have g1 := HG1.out.c1
      go_wp2_with fail
      refine (HVD.out _).mono ?_
      rintro e w2 ⟨rfl, hb2⟩
      have HT2 := Lib.hid (HT1.out.next hb2)
      have HG2 := Lib.hid (HG1.out.next hb2)
      have HB2 := Lib.hid (HB1.out.trans (hb2.mono HB1.out.size))
      clear hb2
      clear t0 t1 t2 t3 t4 t5 t6 t7 g0 g1
      obtain ⟨t0, t1, t2, t3, t4, t5, t6, t7⟩ := HT2.out.cells
      have g0 := HG2.out.c0
      have g1 := HG2.out.c1
      go_wp2_with fail
      refine (HAW.out _).mono ?_
      rintro e w9 ⟨rfl, hb9⟩
      have HB9 := Lib.hid (HB2.out.trans (hb9.mono HB2.out.size))
      clear hb9
      clear t0 t1 t2 t3 t4 t5 t6 t7 g0 g1
      go_wp2
      go_ret
      exact ⟨rfl, HB9.out⟩
    · rcases hf3 with he | ⟨he, hf4⟩
      · skip
        have HAW := Lib.hid awake9
        obtain ⟨W0, hW0⟩ : ∃ W0, (((w.alloc (.cells #[.string M, .string O, .string a, .string b, .bool dn, .string ds, .bool en, .string es] 33)).alloc (.cells #[.string M, .string O] 24)).alloc (.cells #[.string a, .string b, .string ds, .string es] 22)).drew = W0 := ⟨_, rfl⟩
        have HT0 := Lib.hid (show Bx8 W0 w.heap.size M O a b dn ds en es from by
          rw [← hW0]
          have h0 : Bx8 (w.alloc (.cells #[.string M, .string O, .string a, .string b, .bool dn, .string ds, .bool en, .string es] 33)) w.heap.size M O a b dn ds en es := heap_alloc_new _ _
          exact (h0.next ((Below.refl _ _).alloc (Nat.le_refl _) _)).next ((Below.refl _ _).alloc (Nat.le_refl _) _).drew)
        have HG0 := Lib.hid (show Bx2 W0 (w.heap.size + 1) (.string M) (.string O) 24 from by
          rw [← hW0]
          have := Bx2.new (w.alloc (.cells #[.string M, .string O, .string a, .string b, .bool dn, .string ds, .bool en, .string es] 33)) (.string M) (.string O) 24
          rw [World.size_alloc] at this
          exact this.next ((Below.refl _ _).alloc (Nat.le_refl _) _).drew)
        have HS0 := Lib.hid (show SlN W0 (some ⟨w.heap.size + 1 + 1, 0, none⟩) 4 4 [a, b, ds, es] from by
          rw [← hW0]
          have := sln_alloc ((w.alloc (.cells #[.string M, .string O, .string a, .string b, .bool dn, .string ds, .bool en, .string es] 33)).alloc (.cells #[.string M, .string O] 24)) [a, b, ds, es] 22 (by simp)
          rw [World.size_alloc, World.size_alloc] at this
          exact this.kept (B := ((((w.alloc (.cells #[.string M, .string O, .string a, .string b, .bool dn, .string ds, .bool en, .string es] 33)).alloc (.cells #[.string M, .string O] 24)).alloc (.cells #[.string a, .string b, .string ds, .string es] 22))).heap.size) (Below.refl _ _).drew (Nat.le_refl _))
        have HB0 := Lib.hid (show Below w.heap.size w W0 from by
          rw [← hW0]
          exact ((((Below.refl w.heap.size w).alloc (Nat.le_refl _) _).alloc (by simp) _).alloc (by simp; omega) _).drew)
        have HFW := Lib.hid (law_Few M O [a, b, ds, es] (some ⟨w.heap.size + 1 + 1, 0, none⟩) 4 4 (by omega) W0 HS0.out)
        have HW0 := Lib.hid hW0
        clear hW0
        unfold twV gV at *
        rw [hf] at HFW
        rw [hd] at HVD
        rw [he] at HVE
        clear hf hd he
        go_enter Tryd.func4, Tryd.ntmps4
        go_wp2
        go_region
        go_wp2_with fail
        rw [HW0.out]
        refine (HFW.out).mono ?_
        rintro e w1 ⟨rfl, hb1⟩
        have HT1 := Lib.hid (HT0.out.next hb1)
        have HG1 := Lib.hid (HG0.out.next hb1)
        have HB1 := Lib.hid (HB0.out.trans (hb1.mono HB0.out.size))
        clear hb1
        obtain ⟨t0, t1, t2, t3, t4, t5, t6, t7⟩ := HT1.out.cells
        have g0 := HG1.out.c0
        have g1 := HG1.out.c1
        go_wp2_with fail
        refine (HVD.out _).mono ?_
        rintro e w2 ⟨rfl, hb2⟩
        have HT2 := Lib.hid (HT1.out.next hb2)
        have HG2 := Lib.hid (HG1.out.next hb2)
        have HB2 := Lib.hid (HB1.out.trans (hb2.mono HB1.out.size))
        clear hb2
        clear t0 t1 t2 t3 t4 t5 t6 t7 g0 g1
        obtain ⟨t0, t1, t2, t3, t4, t5, t6, t7⟩ := HT2.out.cells
        have g0 := HG2.out.c0
        have g1 := HG2.out.c1
        go_wp2_with fail
        refine (HVE.out _).mono ?_
        rintro e w3 ⟨rfl, hb3⟩
        have HT3 := Lib.hid (HT2.out.next hb3)
        have HG3 := Lib.hid (HG2.out.next hb3)
        have HB3 := Lib.hid (HB2.out.trans (hb3.mono HB2.out.size))
        clear hb3
        clear t0 t1 t2 t3 t4 t5 t6 t7 g0 g1
        obtain ⟨t0, t1, t2, t3, t4, t5, t6, t7⟩ := HT3.out.cells
        have g0 := HG3.out.c0
        have g1 := HG3.out.c1
        go_wp2_with fail
        refine (HAW.out _).mono ?_
        rintro e w9 ⟨rfl, hb9⟩
        have HB9 := Lib.hid (HB3.out.trans (hb9.mono HB3.out.size))
        clear hb9
        clear t0 t1 t2 t3 t4 t5 t6 t7 g0 g1
        go_wp2
        go_ret
        exact ⟨rfl, HB9.out⟩
      · rcases hf4 with ha | ⟨ha, hb⟩
        · skip
          have HAW := Lib.hid awake9
          obtain ⟨W0, hW0⟩ : ∃ W0, (((w.alloc (.cells #[.string M, .string O, .string a, .string b, .bool dn, .string ds, .bool en, .string es] 33)).alloc (.cells #[.string M, .string O] 24)).alloc (.cells #[.string a, .string b, .string ds, .string es] 22)).drew = W0 := ⟨_, rfl⟩
          have HT0 := Lib.hid (show Bx8 W0 w.heap.size M O a b dn ds en es from by
            rw [← hW0]
            have h0 : Bx8 (w.alloc (.cells #[.string M, .string O, .string a, .string b, .bool dn, .string ds, .bool en, .string es] 33)) w.heap.size M O a b dn ds en es := heap_alloc_new _ _
            exact (h0.next ((Below.refl _ _).alloc (Nat.le_refl _) _)).next ((Below.refl _ _).alloc (Nat.le_refl _) _).drew)
          have HG0 := Lib.hid (show Bx2 W0 (w.heap.size + 1) (.string M) (.string O) 24 from by
            rw [← hW0]
            have := Bx2.new (w.alloc (.cells #[.string M, .string O, .string a, .string b, .bool dn, .string ds, .bool en, .string es] 33)) (.string M) (.string O) 24
            rw [World.size_alloc] at this
            exact this.next ((Below.refl _ _).alloc (Nat.le_refl _) _).drew)
          have HS0 := Lib.hid (show SlN W0 (some ⟨w.heap.size + 1 + 1, 0, none⟩) 4 4 [a, b, ds, es] from by
            rw [← hW0]
            have := sln_alloc ((w.alloc (.cells #[.string M, .string O, .string a, .string b, .bool dn, .string ds, .bool en, .string es] 33)).alloc (.cells #[.string M, .string O] 24)) [a, b, ds, es] 22 (by simp)
            rw [World.size_alloc, World.size_alloc] at this
            exact this.kept (B := ((((w.alloc (.cells #[.string M, .string O, .string a, .string b, .bool dn, .string ds, .bool en, .string es] 33)).alloc (.cells #[.string M, .string O] 24)).alloc (.cells #[.string a, .string b, .string ds, .string es] 22))).heap.size) (Below.refl _ _).drew (Nat.le_refl _))
          have HB0 := Lib.hid (show Below w.heap.size w W0 from by
            rw [← hW0]
            exact ((((Below.refl w.heap.size w).alloc (Nat.le_refl _) _).alloc (by simp) _).alloc (by simp; omega) _).drew)
          have HFW := Lib.hid (law_Few M O [a, b, ds, es] (some ⟨w.heap.size + 1 + 1, 0, none⟩) 4 4 (by omega) W0 HS0.out)
          have HW0 := Lib.hid hW0
          clear hW0
          unfold twV gV at *
          rw [hf] at HFW
          rw [hd] at HVD
          rw [he] at HVE
          rw [ha] at HHA
          clear hf hd he ha
          go_enter Tryd.func4, Tryd.ntmps4
          go_wp2
          go_region
          go_wp2_with fail
          rw [HW0.out]
          refine (HFW.out).mono ?_
          rintro e w1 ⟨rfl, hb1⟩
          have HT1 := Lib.hid (HT0.out.next hb1)
          have HG1 := Lib.hid (HG0.out.next hb1)
          have HB1 := Lib.hid (HB0.out.trans (hb1.mono HB0.out.size))
          clear hb1
          obtain ⟨t0, t1, t2, t3, t4, t5, t6, t7⟩ := HT1.out.cells
          have g0 := HG1.out.c0
          have g1 := HG1.out.c1
          go_wp2_with fail
          refine (HVD.out _).mono ?_
          rintro e w2 ⟨rfl, hb2⟩
          have HT2 := Lib.hid (HT1.out.next hb2)
          have HG2 := Lib.hid (HG1.out.next hb2)
          have HB2 := Lib.hid (HB1.out.trans (hb2.mono HB1.out.size))
          clear hb2
          clear t0 t1 t2 t3 t4 t5 t6 t7 g0 g1
          obtain ⟨t0, t1, t2, t3, t4, t5, t6, t7⟩ := HT2.out.cells
          have g0 := HG2.out.c0
          have g1 := HG2.out.c1
          go_wp2_with fail
          refine (HVE.out _).mono ?_
          rintro e w3 ⟨rfl, hb3⟩
          have HT3 := Lib.hid (HT2.out.next hb3)
          have HG3 := Lib.hid (HG2.out.next hb3)
          have HB3 := Lib.hid (HB2.out.trans (hb3.mono HB2.out.size))
          clear hb3
          clear t0 t1 t2 t3 t4 t5 t6 t7 g0 g1
          obtain ⟨t0, t1, t2, t3, t4, t5, t6, t7⟩ := HT3.out.cells
          have g0 := HG3.out.c0
          have g1 := HG3.out.c1
          go_wp2_with fail
          refine (HHA.out _).mono ?_
          rintro e w4 ⟨rfl, hb4⟩
          have HT4 := Lib.hid (HT3.out.next hb4)
          have HG4 := Lib.hid (HG3.out.next hb4)
          have HB4 := Lib.hid (HB3.out.trans (hb4.mono HB3.out.size))
          clear hb4
          clear t0 t1 t2 t3 t4 t5 t6 t7 g0 g1
          obtain ⟨t0, t1, t2, t3, t4, t5, t6, t7⟩ := HT4.out.cells
          have g0 := HG4.out.c0
          have g1 := HG4.out.c1
          go_wp2_with fail
          refine (HAW.out _).mono ?_
          rintro e w9 ⟨rfl, hb9⟩
          have HB9 := Lib.hid (HB4.out.trans (hb9.mono HB4.out.size))
          clear hb9
          clear t0 t1 t2 t3 t4 t5 t6 t7 g0 g1
          go_wp2
          go_ret
          exact ⟨rfl, HB9.out⟩
        · skip
          have HAW := Lib.hid awake9
          obtain ⟨W0, hW0⟩ : ∃ W0, (((w.alloc (.cells #[.string M, .string O, .string a, .string b, .bool dn, .string ds, .bool en, .string es] 33)).alloc (.cells #[.string M, .string O] 24)).alloc (.cells #[.string a, .string b, .string ds, .string es] 22)).drew = W0 := ⟨_, rfl⟩
          have HT0 := Lib.hid (show Bx8 W0 w.heap.size M O a b dn ds en es from by
            rw [← hW0]
            have h0 : Bx8 (w.alloc (.cells #[.string M, .string O, .string a, .string b, .bool dn, .string ds, .bool en, .string es] 33)) w.heap.size M O a b dn ds en es := heap_alloc_new _ _
            exact (h0.next ((Below.refl _ _).alloc (Nat.le_refl _) _)).next ((Below.refl _ _).alloc (Nat.le_refl _) _).drew)
          have HG0 := Lib.hid (show Bx2 W0 (w.heap.size + 1) (.string M) (.string O) 24 from by
            rw [← hW0]
            have := Bx2.new (w.alloc (.cells #[.string M, .string O, .string a, .string b, .bool dn, .string ds, .bool en, .string es] 33)) (.string M) (.string O) 24
            rw [World.size_alloc] at this
            exact this.next ((Below.refl _ _).alloc (Nat.le_refl _) _).drew)
          have HS0 := Lib.hid (show SlN W0 (some ⟨w.heap.size + 1 + 1, 0, none⟩) 4 4 [a, b, ds, es] from by
            rw [← hW0]
            have := sln_alloc ((w.alloc (.cells #[.string M, .string O, .string a, .string b, .bool dn, .string ds, .bool en, .string es] 33)).alloc (.cells #[.string M, .string O] 24)) [a, b, ds, es] 22 (by simp)
            rw [World.size_alloc, World.size_alloc] at this
            exact this.kept (B := ((((w.alloc (.cells #[.string M, .string O, .string a, .string b, .bool dn, .string ds, .bool en, .string es] 33)).alloc (.cells #[.string M, .string O] 24)).alloc (.cells #[.string a, .string b, .string ds, .string es] 22))).heap.size) (Below.refl _ _).drew (Nat.le_refl _))
          have HB0 := Lib.hid (show Below w.heap.size w W0 from by
            rw [← hW0]
            exact ((((Below.refl w.heap.size w).alloc (Nat.le_refl _) _).alloc (by simp) _).alloc (by simp; omega) _).drew)
          have HFW := Lib.hid (law_Few M O [a, b, ds, es] (some ⟨w.heap.size + 1 + 1, 0, none⟩) 4 4 (by omega) W0 HS0.out)
          have HW0 := Lib.hid hW0
          clear hW0
          unfold twV gV at *
          rw [hf] at HFW
          rw [hd] at HVD
          rw [he] at HVE
          rw [ha] at HHA
          rw [hb] at HHB
          clear hf hd he ha hb
          go_enter Tryd.func4, Tryd.ntmps4
          go_wp2
          go_region
          go_wp2_with fail
          rw [HW0.out]
          refine (HFW.out).mono ?_
          rintro e w1 ⟨rfl, hb1⟩
          have HT1 := Lib.hid (HT0.out.next hb1)
          have HG1 := Lib.hid (HG0.out.next hb1)
          have HB1 := Lib.hid (HB0.out.trans (hb1.mono HB0.out.size))
          clear hb1
          obtain ⟨t0, t1, t2, t3, t4, t5, t6, t7⟩ := HT1.out.cells
          have g0 := HG1.out.c0
          have g1 := HG1.out.c1
          go_wp2_with fail
          refine (HVD.out _).mono ?_
          rintro e w2 ⟨rfl, hb2⟩
          have HT2 := Lib.hid (HT1.out.next hb2)
          have HG2 := Lib.hid (HG1.out.next hb2)
          have HB2 := Lib.hid (HB1.out.trans (hb2.mono HB1.out.size))
          clear hb2
          clear t0 t1 t2 t3 t4 t5 t6 t7 g0 g1
          obtain ⟨t0, t1, t2, t3, t4, t5, t6, t7⟩ := HT2.out.cells
          have g0 := HG2.out.c0
          have g1 := HG2.out.c1
          go_wp2_with fail
          refine (HVE.out _).mono ?_
          rintro e w3 ⟨rfl, hb3⟩
          have HT3 := Lib.hid (HT2.out.next hb3)
          have HG3 := Lib.hid (HG2.out.next hb3)
          have HB3 := Lib.hid (HB2.out.trans (hb3.mono HB2.out.size))
          clear hb3
          clear t0 t1 t2 t3 t4 t5 t6 t7 g0 g1
          obtain ⟨t0, t1, t2, t3, t4, t5, t6, t7⟩ := HT3.out.cells
          have g0 := HG3.out.c0
          have g1 := HG3.out.c1
          go_wp2_with fail
          refine (HHA.out _).mono ?_
          rintro e w4 ⟨rfl, hb4⟩
          have HT4 := Lib.hid (HT3.out.next hb4)
          have HG4 := Lib.hid (HG3.out.next hb4)
          have HB4 := Lib.hid (HB3.out.trans (hb4.mono HB3.out.size))
          clear hb4
          clear t0 t1 t2 t3 t4 t5 t6 t7 g0 g1
          obtain ⟨t0, t1, t2, t3, t4, t5, t6, t7⟩ := HT4.out.cells
          have g0 := HG4.out.c0
          have g1 := HG4.out.c1
          go_wp2_with fail
          refine (HHB.out _).mono ?_
          rintro e w5 ⟨rfl, hb5⟩
          have HT5 := Lib.hid (HT4.out.next hb5)
          have HG5 := Lib.hid (HG4.out.next hb5)
          have HB5 := Lib.hid (HB4.out.trans (hb5.mono HB4.out.size))
          clear hb5
          clear t0 t1 t2 t3 t4 t5 t6 t7 g0 g1
          obtain ⟨t0, t1, t2, t3, t4, t5, t6, t7⟩ := HT5.out.cells
          have g0 := HG5.out.c0
          have g1 := HG5.out.c1
          go_wp2_with fail
          refine (HAW.out _).mono ?_
          rintro e w9 ⟨rfl, hb9⟩
          have HB9 := Lib.hid (HB5.out.trans (hb9.mono HB5.out.size))
          clear hb9
          clear t0 t1 t2 t3 t4 t5 t6 t7 g0 g1
          go_wp2
          go_ret
          exact ⟨rfl, HB9.out⟩

set_option maxRecDepth 100000 in
set_option maxHeartbeats 16000000 in
theorem walk_laws_in (M O a b : ByteArray) (dn : Bool) (ds : ByteArray) (en : Bool) (es : ByteArray) (w : World)
    (hf : few9 M O [a, b, ds, es] = true) (hd : zvalid dn ds = true) (he : zvalid en es = true) (ha : hasG M O a = true) (hb : hasG M O b = true) :
    Calls Tryd.prog 4 #[twV M O a b dn ds en es] w (Ret (.bool true) w) := by
  obtain ⟨z1, z2, z3⟩ := few9_of hf
  have z4 := z3 a (by simp)
  have z5 := z3 b (by simp)
  have z6 := z3 ds (by simp)
  have z7 := z3 es (by simp)
  have HVD := Lib.hid (int_Valid dn ds (by omega))
  have HVE := Lib.hid (int_Valid en es (by omega))
  have HHA := Lib.hid (pg_Has M O a z1 (by omega) (by omega))
  have HHB := Lib.hid (pg_Has M O b z1 (by omega) (by omega))
  obtain ⟨hvd, hzd⟩ := zv_valid hd
  obtain ⟨hve, hze⟩ := zv_valid he
  have n1 : (sg dn (num ds)).natAbs < 256 ^ 100 := by
    rw [sg_abs]
    exact Nat.lt_of_lt_of_le (num_lt_size ds) (Nat.pow_le_pow_right (by omega) (by omega))
  have n2 : (sg en (num es)).natAbs < 256 ^ 100 := by
    rw [sg_abs]
    exact Nat.lt_of_lt_of_le (num_lt_size es) (Nat.pow_le_pow_right (by omega) (by omega))
  obtain ⟨AB, P, Q, R, BO, OT, f1, f2, f3, f4, f5, f6, f7, f8, f9, f10, f11, f12, f13⟩ := laws_facts M O a b (sg dn (num ds)) (sg en (num es)) n1 n2 z1 (by omega) ha hb
  rw [← hzd] at f3 f5 f10 f11
  rw [← hze] at f4 f5
  rw [hd] at HVD
  rw [he] at HVE
  rw [ha] at HHA
  rw [hb] at HHB
  clear hvd hve hzd hze n1 n2 z1 z2 z3 z4 z5 z6 z7 hd he ha hb
  unfold intV at f5 f6 f8 f9
  obtain ⟨sb, hsb⟩ : ∃ sb, decide (sg dn (num ds) + sg en (num es) < 0) = sb := ⟨_, rfl⟩
  obtain ⟨ss, hss⟩ : ∃ ss, nS (sg dn (num ds) + sg en (num es)).natAbs = ss := ⟨_, rfl⟩
  obtain ⟨ob, hob⟩ : ∃ ob, decide ((num O : Int) < 0) = ob := ⟨_, rfl⟩
  obtain ⟨os, hos⟩ : ∃ os, nS (num O : Int).natAbs = os := ⟨_, rfl⟩
  rw [hsb, hss] at f5 f6
  rw [hob, hos] at f8 f9
  clear hsb hss hob hos
  have F1 := Lib.hid f1
  have F2 := Lib.hid f2
  have F3 := Lib.hid f3
  have F4 := Lib.hid f4
  have F5 := Lib.hid f5
  have F6 := Lib.hid f6
  have F7 := Lib.hid f7
  have F8 := Lib.hid f8
  have F9 := Lib.hid f9
  have F10 := Lib.hid f10
  have F11 := Lib.hid f11
  have F12 := Lib.hid f12
  have F13 := Lib.hid f13
  clear f1 f2 f3 f4 f5 f6 f7 f8 f9 f10 f11 f12 f13
  have HAW := Lib.hid awake9
  obtain ⟨W0, hW0⟩ : ∃ W0, (((w.alloc (.cells #[.string M, .string O, .string a, .string b, .bool dn, .string ds, .bool en, .string es] 33)).alloc (.cells #[.string M, .string O] 24)).alloc (.cells #[.string a, .string b, .string ds, .string es] 22)).drew = W0 := ⟨_, rfl⟩
  have HT0 := Lib.hid (show Bx8 W0 w.heap.size M O a b dn ds en es from by
    rw [← hW0]
    have h0 : Bx8 (w.alloc (.cells #[.string M, .string O, .string a, .string b, .bool dn, .string ds, .bool en, .string es] 33)) w.heap.size M O a b dn ds en es := heap_alloc_new _ _
    exact (h0.next ((Below.refl _ _).alloc (Nat.le_refl _) _)).next ((Below.refl _ _).alloc (Nat.le_refl _) _).drew)
  have HG0 := Lib.hid (show Bx2 W0 (w.heap.size + 1) (.string M) (.string O) 24 from by
    rw [← hW0]
    have := Bx2.new (w.alloc (.cells #[.string M, .string O, .string a, .string b, .bool dn, .string ds, .bool en, .string es] 33)) (.string M) (.string O) 24
    rw [World.size_alloc] at this
    exact this.next ((Below.refl _ _).alloc (Nat.le_refl _) _).drew)
  have HS0 := Lib.hid (show SlN W0 (some ⟨w.heap.size + 1 + 1, 0, none⟩) 4 4 [a, b, ds, es] from by
    rw [← hW0]
    have := sln_alloc ((w.alloc (.cells #[.string M, .string O, .string a, .string b, .bool dn, .string ds, .bool en, .string es] 33)).alloc (.cells #[.string M, .string O] 24)) [a, b, ds, es] 22 (by simp)
    rw [World.size_alloc, World.size_alloc] at this
    exact this.kept (B := ((((w.alloc (.cells #[.string M, .string O, .string a, .string b, .bool dn, .string ds, .bool en, .string es] 33)).alloc (.cells #[.string M, .string O] 24)).alloc (.cells #[.string a, .string b, .string ds, .string es] 22))).heap.size) (Below.refl _ _).drew (Nat.le_refl _))
  have HB0 := Lib.hid (show Below w.heap.size w W0 from by
    rw [← hW0]
    exact ((((Below.refl w.heap.size w).alloc (Nat.le_refl _) _).alloc (by simp) _).alloc (by simp; omega) _).drew)
  have HFW := Lib.hid (law_Few M O [a, b, ds, es] (some ⟨w.heap.size + 1 + 1, 0, none⟩) 4 4 (by omega) W0 HS0.out)
  have HW0 := Lib.hid hW0
  clear hW0
  unfold twV gV at *
  unfold zV at *
  rw [hf] at HFW
  clear hf
  go_enter Tryd.func4, Tryd.ntmps4
  go_wp2
  go_region
  go_wp2_with fail
  rw [HW0.out]
  refine (HFW.out).mono ?_
  rintro e w1 ⟨rfl, hb1⟩
  have HT1 := Lib.hid (HT0.out.next hb1)
  have HG1 := Lib.hid (HG0.out.next hb1)
  have HB1 := Lib.hid (HB0.out.trans (hb1.mono HB0.out.size))
  clear hb1
  obtain ⟨t0, t1, t2, t3, t4, t5, t6, t7⟩ := HT1.out.cells
  have g0 := HG1.out.c0
  have g1 := HG1.out.c1
  go_wp2_with fail
  refine (HVD.out _).mono ?_
  rintro e w2 ⟨rfl, hb2⟩
  have HT2 := Lib.hid (HT1.out.next hb2)
  have HG2 := Lib.hid (HG1.out.next hb2)
  have HB2 := Lib.hid (HB1.out.trans (hb2.mono HB1.out.size))
  clear hb2
  clear t0 t1 t2 t3 t4 t5 t6 t7 g0 g1
  obtain ⟨t0, t1, t2, t3, t4, t5, t6, t7⟩ := HT2.out.cells
  have g0 := HG2.out.c0
  have g1 := HG2.out.c1
  go_wp2_with fail
  refine (HVE.out _).mono ?_
  rintro e w3 ⟨rfl, hb3⟩
  have HT3 := Lib.hid (HT2.out.next hb3)
  have HG3 := Lib.hid (HG2.out.next hb3)
  have HB3 := Lib.hid (HB2.out.trans (hb3.mono HB2.out.size))
  clear hb3
  clear t0 t1 t2 t3 t4 t5 t6 t7 g0 g1
  obtain ⟨t0, t1, t2, t3, t4, t5, t6, t7⟩ := HT3.out.cells
  have g0 := HG3.out.c0
  have g1 := HG3.out.c1
  go_wp2_with fail
  refine (HHA.out _).mono ?_
  rintro e w4 ⟨rfl, hb4⟩
  have HT4 := Lib.hid (HT3.out.next hb4)
  have HG4 := Lib.hid (HG3.out.next hb4)
  have HB4 := Lib.hid (HB3.out.trans (hb4.mono HB3.out.size))
  clear hb4
  clear t0 t1 t2 t3 t4 t5 t6 t7 g0 g1
  obtain ⟨t0, t1, t2, t3, t4, t5, t6, t7⟩ := HT4.out.cells
  have g0 := HG4.out.c0
  have g1 := HG4.out.c1
  go_wp2_with fail
  refine (HHB.out _).mono ?_
  rintro e w5 ⟨rfl, hb5⟩
  have HT5 := Lib.hid (HT4.out.next hb5)
  have HG5 := Lib.hid (HG4.out.next hb5)
  have HB5 := Lib.hid (HB4.out.trans (hb5.mono HB4.out.size))
  clear hb5
  clear t0 t1 t2 t3 t4 t5 t6 t7 g0 g1
  obtain ⟨t0, t1, t2, t3, t4, t5, t6, t7⟩ := HT5.out.cells
  have g0 := HG5.out.c0
  have g1 := HG5.out.c1
  go_wp2_with fail
  refine (F1.out _).mono ?_
  rintro e w6 ⟨rfl, hb6⟩
  have HT6 := Lib.hid (HT5.out.next hb6)
  have HG6 := Lib.hid (HG5.out.next hb6)
  have HB6 := Lib.hid (HB5.out.trans (hb6.mono HB5.out.size))
  clear hb6
  clear t0 t1 t2 t3 t4 t5 t6 t7 g0 g1
  obtain ⟨t0, t1, t2, t3, t4, t5, t6, t7⟩ := HT6.out.cells
  have g0 := HG6.out.c0
  have g1 := HG6.out.c1
  go_wp2_with fail
  refine (F2.out _).mono ?_
  rintro e w7 ⟨rfl, hb7⟩
  have HT7 := Lib.hid (HT6.out.next hb7)
  have HG7 := Lib.hid (HG6.out.next hb7)
  have HB7 := Lib.hid (HB6.out.trans (hb7.mono HB6.out.size))
  clear hb7
  clear t0 t1 t2 t3 t4 t5 t6 t7 g0 g1
  obtain ⟨t0, t1, t2, t3, t4, t5, t6, t7⟩ := HT7.out.cells
  have g0 := HG7.out.c0
  have g1 := HG7.out.c1
  go_wp2_with fail
  refine (F3.out _).mono ?_
  rintro e w8 ⟨rfl, hb8⟩
  have HT8 := Lib.hid (HT7.out.next hb8)
  have HG8 := Lib.hid (HG7.out.next hb8)
  have HB8 := Lib.hid (HB7.out.trans (hb8.mono HB7.out.size))
  clear hb8
  clear t0 t1 t2 t3 t4 t5 t6 t7 g0 g1
  obtain ⟨t0, t1, t2, t3, t4, t5, t6, t7⟩ := HT8.out.cells
  have g0 := HG8.out.c0
  have g1 := HG8.out.c1
  go_wp2_with fail
  refine (F4.out _).mono ?_
  rintro e w9 ⟨rfl, hb9⟩
  have HT9 := Lib.hid (HT8.out.next hb9)
  have HG9 := Lib.hid (HG8.out.next hb9)
  have HB9 := Lib.hid (HB8.out.trans (hb9.mono HB8.out.size))
  clear hb9
  clear t0 t1 t2 t3 t4 t5 t6 t7 g0 g1
  obtain ⟨t0, t1, t2, t3, t4, t5, t6, t7⟩ := HT9.out.cells
  have g0 := HG9.out.c0
  have g1 := HG9.out.c1
  go_wp2_with fail
  refine (F5.out _).mono ?_
  rintro e w10 ⟨rfl, hb10⟩
  have HT10 := Lib.hid (HT9.out.next hb10)
  have HG10 := Lib.hid (HG9.out.next hb10)
  have HB10 := Lib.hid (HB9.out.trans (hb10.mono HB9.out.size))
  clear hb10
  clear t0 t1 t2 t3 t4 t5 t6 t7 g0 g1
  obtain ⟨W11, hW11⟩ : ∃ W11, w10.alloc (.cells #[.bool sb, .string ss] 31) = W11 := ⟨_, rfl⟩
  have hb11 : Below w10.heap.size w10 W11 := by rw [← hW11]; exact (Below.refl _ _).alloc (Nat.le_refl _) _
  have hSM := (show Bx2 W11 w10.heap.size (.bool sb) (.string ss) 31 from by rw [← hW11]; exact Bx2.new _ _ _ _)
  obtain ⟨S, hS⟩ : ∃ S, w10.heap.size = S := ⟨_, rfl⟩
  rw [hS] at hSM
  have HT11 := Lib.hid (HT10.out.next hb11)
  have HG11 := Lib.hid (HG10.out.next hb11)
  have HB11 := Lib.hid (HB10.out.trans (hb11.mono HB10.out.size))
  clear hb11
  obtain ⟨t0, t1, t2, t3, t4, t5, t6, t7⟩ := HT11.out.cells
  have g0 := HG11.out.c0
  have g1 := HG11.out.c1
  have s0 := hSM.c0
  have s1 := hSM.c1
  clear hSM
  go_wp2_with fail
  try rw [hW11]
  refine (F6.out _).mono ?_
  rintro e w12 ⟨rfl, hb12⟩
  have HT12 := Lib.hid (HT11.out.next hb12)
  have HG12 := Lib.hid (HG11.out.next hb12)
  have HB12 := Lib.hid (HB11.out.trans (hb12.mono HB11.out.size))
  clear hb12
  clear t0 t1 t2 t3 t4 t5 t6 t7 g0 g1
  clear s0 s1 hW11 hS
  obtain ⟨t0, t1, t2, t3, t4, t5, t6, t7⟩ := HT12.out.cells
  have g0 := HG12.out.c0
  have g1 := HG12.out.c1
  go_wp2_with fail
  refine (F7.out _).mono ?_
  rintro e w13 ⟨rfl, hb13⟩
  have HT13 := Lib.hid (HT12.out.next hb13)
  have HG13 := Lib.hid (HG12.out.next hb13)
  have HB13 := Lib.hid (HB12.out.trans (hb13.mono HB12.out.size))
  clear hb13
  clear t0 t1 t2 t3 t4 t5 t6 t7 g0 g1
  obtain ⟨t0, t1, t2, t3, t4, t5, t6, t7⟩ := HT13.out.cells
  have g0 := HG13.out.c0
  have g1 := HG13.out.c1
  go_wp2
  obtain ⟨wd, hwd⟩ : ∃ wd, w13.drew = wd := ⟨_, rfl⟩
  have hb14 : Below w13.heap.size w13 wd := by rw [← hwd]; exact (Below.refl _ _).drew
  have HT14 := Lib.hid (HT13.out.next hb14)
  have HG14 := Lib.hid (HG13.out.next hb14)
  have HB14 := Lib.hid (HB13.out.trans (hb14.mono HB13.out.size))
  clear hb14
  clear t0 t1 t2 t3 t4 t5 t6 t7 g0 g1
  obtain ⟨t0, t1, t2, t3, t4, t5, t6, t7⟩ := HT14.out.cells
  have g0 := HG14.out.c0
  have g1 := HG14.out.c1
  refine wp_region_K 5 (Below (wd).heap.size (wd)) (by kernel_rfl) ?_
  intro hD
  rw [hwd]
  refine wpAnyK_take (i := 0) (v := ?v11_0b1) (fuel := 10) rfl (by kernel_rfl) (by kernel_rfl) (fun _ _ _ h => h) hD (Below.refl _ _) (.inl ⟨by kernel_rfl, ?y11_0b1⟩) ?n11_0b1
  case y11_0b1 => intro w' hS'; have e0 := cell_kept hS' (Nat.le_refl _) g0; have e1 := cell_kept hS' (Nat.le_refl _) g1; go_simp; with_reducible rfl
  clear hD; intro hD
  simp only [Act.put, List.setIfInBounds_toArray, List.set_cons_zero, List.set_cons_succ]
  refine wpAnyK_pure (i := 1) (v := ?v11_1b1) (fuel := 9) rfl (by kernel_rfl) (fun _ _ _ h => h) hD (Below.refl _ _) (.inl ⟨by kernel_rfl, ?y11_1b1⟩) ?n11_1b1
  case y11_1b1 => intro w' _; go_simp; with_reducible rfl
  clear hD; intro hD
  simp only [Act.put, List.setIfInBounds_toArray, List.set_cons_zero, List.set_cons_succ]
  refine wpAnyK_pure (i := 2) (v := ?v11_2b1) (fuel := 8) rfl (by kernel_rfl) (fun _ _ _ h => h) hD (Below.refl _ _) (.inl ⟨by kernel_rfl, ?y11_2b1⟩) ?n11_2b1
  case y11_2b1 => intro w' _; go_simp; with_reducible rfl
  clear hD; intro hD
  simp only [Act.put, List.setIfInBounds_toArray, List.set_cons_zero, List.set_cons_succ]
  refine wpAnyK_take (i := 3) (v := ?v11_3b1) (fuel := 7) rfl (by kernel_rfl) (by kernel_rfl) (fun _ _ _ h => h) hD (Below.refl _ _) (.inl ⟨by kernel_rfl, ?y11_3b1⟩) ?n11_3b1
  case y11_3b1 => intro w' hS'; have e0 := cell_kept hS' (Nat.le_refl _) g0; have e1 := cell_kept hS' (Nat.le_refl _) g1; go_simp; with_reducible rfl
  clear hD; intro hD
  simp only [Act.put, List.setIfInBounds_toArray, List.set_cons_zero, List.set_cons_succ]
  refine wpAnyK_one (i := 4) (fuel := 6) (by kernel_rfl) rfl hD ?_
  clear hD; intro K4 hK4
  go_wp2_with fail
  refine (F8.out _).mono ?_
  rintro ev w15 ⟨rfl, hb15⟩
  have HB4 := Lib.hid hb15
  clear hb15
  go_wp2
  refine hK4 _ _ (by exact HB4.out) ?_; clear hK4; intro hS_11_4 hD
  refine wpAnyK_oneT (i := 5) (fuel := 5) (by kernel_rfl) rfl hD (by kernel_rfl) ?_
  clear hD; intro K5 hK5
  go_wp2_with fail
  refine (F9.out _).mono ?_
  rintro ev w16 ⟨rfl, hb16⟩
  have HB5 := Lib.hid hb16
  have hbx := HB4.out.trans (hb16.mono HB4.out.size)
  have HT16 := Lib.hid (HT14.out.next hbx)
  have HG16 := Lib.hid (HG14.out.next hbx)
  have HB16 := Lib.hid (HB14.out.trans (hbx.mono HB14.out.size))
  clear hb16 hbx
  go_wp2
  refine hK5 _ _ ?_; clear hK5; intro hD
  refine wpAnyK_pureT (i := 6) (v := ?v11_6b1) (fuel := 4) rfl (by kernel_rfl) (by kernel_rfl) (fun _ _ _ h => h) hD  (.inl ⟨by kernel_rfl, ?y11_6b1⟩) ?n11_6b1
  case y11_6b1 => intro w' _; go_simp; with_reducible rfl
  clear hD; intro hD
  simp only [Act.put, List.setIfInBounds_toArray, List.set_cons_zero, List.set_cons_succ]
  refine wpAnyK_pureT (i := 7) (v := ?v11_7b1) (fuel := 3) rfl (by kernel_rfl) (by kernel_rfl) (fun _ _ _ h => h) hD  (.inl ⟨by kernel_rfl, ?y11_7b1⟩) ?n11_7b1
  case y11_7b1 => intro w' _; go_simp; with_reducible rfl
  clear hD; intro hD
  simp only [Act.put, List.setIfInBounds_toArray, List.set_cons_zero, List.set_cons_succ]
  refine wpAnyK_pureT (i := 8) (v := ?v11_8b1) (fuel := 2) rfl (by kernel_rfl) (by kernel_rfl) (fun _ _ _ h => h) hD  (.inl ⟨by kernel_rfl, ?y11_8b1⟩) ?n11_8b1
  case y11_8b1 => intro w' _; go_simp; with_reducible rfl
  clear hD; intro hD
  simp only [Act.put, List.setIfInBounds_toArray, List.set_cons_zero, List.set_cons_succ]
  refine wpAnyK_oneT (i := 9) (fuel := 1) (by kernel_rfl) rfl hD (by kernel_rfl) ?_
  clear hD; intro K9 hK9
  go_wp2
  refine hK9 _ _ ?_; clear hK9; intro hD
  refine wpAnyK_oneT (i := 10) (fuel := 0) (by kernel_rfl) rfl hD (by kernel_rfl) ?_
  clear hD; intro K10 hK10
  go_wp2
  refine hK10 _ _ ?_; clear hK10; intro hD
  refine wpAnyK_done (by kernel_rfl) ?_ 0
  clear hD
  clear t0 t1 t2 t3 t4 t5 t6 t7 g0 g1
  obtain ⟨t0, t1, t2, t3, t4, t5, t6, t7⟩ := HT16.out.cells
  have g0 := HG16.out.c0
  have g1 := HG16.out.c1
  go_wp2_with fail
  refine (F10.out _).mono ?_
  rintro e w17 ⟨rfl, hb17⟩
  have HT17 := Lib.hid (HT16.out.next hb17)
  have HG17 := Lib.hid (HG16.out.next hb17)
  have HB17 := Lib.hid (HB16.out.trans (hb17.mono HB16.out.size))
  clear hb17
  clear t0 t1 t2 t3 t4 t5 t6 t7 g0 g1
  obtain ⟨t0, t1, t2, t3, t4, t5, t6, t7⟩ := HT17.out.cells
  have g0 := HG17.out.c0
  have g1 := HG17.out.c1
  go_wp2_with fail
  refine (F11.out _).mono ?_
  rintro e w18 ⟨rfl, hb18⟩
  have HT18 := Lib.hid (HT17.out.next hb18)
  have HG18 := Lib.hid (HG17.out.next hb18)
  have HB18 := Lib.hid (HB17.out.trans (hb18.mono HB17.out.size))
  clear hb18
  clear t0 t1 t2 t3 t4 t5 t6 t7 g0 g1
  obtain ⟨t0, t1, t2, t3, t4, t5, t6, t7⟩ := HT18.out.cells
  have g0 := HG18.out.c0
  have g1 := HG18.out.c1
  go_wp2_with fail
  refine (F12.out _).mono ?_
  rintro e w19 ⟨rfl, hb19⟩
  have HT19 := Lib.hid (HT18.out.next hb19)
  have HG19 := Lib.hid (HG18.out.next hb19)
  have HB19 := Lib.hid (HB18.out.trans (hb19.mono HB18.out.size))
  clear hb19
  clear t0 t1 t2 t3 t4 t5 t6 t7 g0 g1
  obtain ⟨t0, t1, t2, t3, t4, t5, t6, t7⟩ := HT19.out.cells
  have g0 := HG19.out.c0
  have g1 := HG19.out.c1
  go_wp2_with fail
  refine (F13.out _).mono ?_
  rintro e w20 ⟨rfl, hb20⟩
  have HT20 := Lib.hid (HT19.out.next hb20)
  have HG20 := Lib.hid (HG19.out.next hb20)
  have HB20 := Lib.hid (HB19.out.trans (hb20.mono HB19.out.size))
  clear hb20
  clear t0 t1 t2 t3 t4 t5 t6 t7 g0 g1
  obtain ⟨t0, t1, t2, t3, t4, t5, t6, t7⟩ := HT20.out.cells
  have g0 := HG20.out.c0
  have g1 := HG20.out.c1
  go_wp2_with fail
  refine (HAW.out _).mono ?_
  rintro e w21 ⟨rfl, hb21⟩
  have HB21 := Lib.hid (HB20.out.trans (hb21.mono HB20.out.size))
  clear hb21
  clear t0 t1 t2 t3 t4 t5 t6 t7 g0 g1
  go_wp2
  go_ret
  exact ⟨rfl, HB21.out⟩
theorem walk_laws (M O a b : ByteArray) (dn : Bool) (ds : ByteArray) (en : Bool) (es : ByteArray) (w : World) : Calls Tryd.prog 4 #[twV M O a b dn ds en es] w (Ret (.bool true) w) := by
  cases hf : few9 M O [a, b, ds, es] with
  | false => exact walk_laws_out M O a b dn ds en es w (.inl hf)
  | true =>
    cases hd : zvalid dn ds with
    | false => exact walk_laws_out M O a b dn ds en es w (.inr ⟨hf, .inl hd⟩)
    | true =>
      cases he : zvalid en es with
      | false => exact walk_laws_out M O a b dn ds en es w (.inr ⟨hf, .inr ⟨hd, .inl he⟩⟩)
      | true =>
        cases ha : hasG M O a with
        | false => exact walk_laws_out M O a b dn ds en es w (.inr ⟨hf, .inr ⟨hd, .inr ⟨he, .inl ha⟩⟩⟩)
        | true =>
          cases hb : hasG M O b with
          | false => exact walk_laws_out M O a b dn ds en es w (.inr ⟨hf, .inr ⟨hd, .inr ⟨he, .inr ⟨ha, hb⟩⟩⟩⟩)
          | true => exact walk_laws_in M O a b dn ds en es w hf hd he ha hb
end Go.Proofs.YtcbjadaghpmejaaDoor

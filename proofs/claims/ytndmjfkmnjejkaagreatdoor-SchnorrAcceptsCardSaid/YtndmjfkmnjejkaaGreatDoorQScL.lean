/- Walk: coins.draw, where the tape has a value. -/
import Derived.Test.YtndmjfkmnjejkaaGreatDoorQCoB
import Derived.Test.YtndmjfkmnjejkaaGreatDoorQPeB
import Derived.Test.YtndmjfkmnjejkaaGreatDoorQNum2
import Derived.Great.Walk
import Derived.Laws.CopyOwn
import Derived.Test.YtndmjfkmnjejkaaGreatDoorQScF
import Derived.Test.YtndmjfkmnjejkaaGreatDoorQCoBs
import Derived.Deep.Cut
set_option linter.unusedVariables false
set_option linter.unusedSimpArgs false
namespace Go.Proofs.YtndmjfkmnjejkaaGreatDoor
open Go.RowKit
theorem cmpI_ltP {x y : Nat} : (cmpI x y < 0) = (x < y) := by
  unfold cmpI; split
  · simp_all
  · split <;> simp_all
theorem size_validC {s : ByteArray} (h : nvalid s = true) : s.size ≤ 128 := by
  unfold nvalid at h; rw [Bool.and_eq_true] at h; exact of_decide_eq_true h.1
theorem join2 {K : Act → World → Prop} {Fc : Nat → Nat → World → Prop} {G : Prop} (F : Nat → Nat → Act) (hm : (∀ b c w, Fc b c w → K (F b c) w) → G) (hr : ∀ b c w, Fc b c w → K (F b c) w) : G := hm hr
theorem TB.set3 {W : World} {B : Nat} {A A' : Option Addr} {n c n' c' : Nat} {s s' : ByteArray} {a a' : Int} (h : TB W B A n c s a) :
    TB (((W.setCell ⟨B, 0, none⟩ (.slice A' n' c')).setCell ⟨B, 1, none⟩ (.string s')).setCell ⟨B, 2, none⟩ (.int .i64 a')) B A' n' c' s' a' :=
  block_setCell (block_setCell (block_setCell h _) _) _
theorem TB.off {W : World} {B C k : Nat} {A : Option Addr} {n c : Nat} {s : ByteArray} {a : Int} (h : TB W B A n c s a) (hne : B ≠ C) (u : Value) : TB (W.setCell ⟨C, k, none⟩ u) B A n c s a := (heap_setCell_other _ _ _ _ hne).trans h
theorem below_set3 {B : Nat} {w W : World} (h : Below B w W) {C : Nat} (hC : B ≤ C) (u v x : Value) : Below B w (((W.setCell ⟨C, 0, none⟩ u).setCell ⟨C, 1, none⟩ v).setCell ⟨C, 2, none⟩ x) :=
  ((h.setCell (p := ⟨C, 0, none⟩) hC _).setCell (p := ⟨C, 1, none⟩) hC _).setCell (p := ⟨C, 2, none⟩) hC _
theorem make_nats (n : Nat) (hn : n ≤ 1000000) (w : World) : (Instr.makeSlice 29 (.int .i64 n) (.int .i64 n)).run Tryz.prog w = .ok (.slice (some ⟨w.heap.size, 0, none⟩) n n) (w.alloc (.cells (madeCells #[.string ⟨#[]⟩] n) 22)) := by
  obtain ⟨i0, hi, hz0, hz1, hz2⟩ := info_parts nat_info
  have h := run_make (P := Tryz.prog) w 29 22 i0 (.string ⟨#[]⟩) Tryz.underlying29 hi hz0 .i64 .i64 (n : Int) (n : Int) (by omega) (by omega) (by rw [hz2]; omega) (by omega)
  rw [h, hz1, Int.toNat_natCast, Nat.mul_one]
  rfl
theorem sln_heap {w : World} {B : Nat} {l : List ByteArray} {T : TypeId} {fr : Nat × Nat} (h : w.heap[B]? = some (.cells (l.map Value.string).toArray T fr)) (hl : l.length ≤ 9223372036854775807) : SlN w (some ⟨B, 0, none⟩) l.length l.length l := by
  refine ⟨rfl, Nat.le_refl _, hl, B, 0, fun _ => rfl, fun k s hk => ?_⟩
  rw [Nat.zero_add, Lib.cell_of_heap h]
  simp [hk]
def NT (V : World) (n : Nat) (s : ByteArray) (k : Int) (b c : Nat) (W : World) : Prop :=
  TB W b (some ⟨c, 0, none⟩) n n s k ∧ W.heap[c]? = some (.cells (madeCells #[.string ⟨#[]⟩] n) 22 (0, 0)) ∧ Below V.heap.size V W ∧ V.heap.size ≤ b ∧ V.heap.size ≤ c ∧ b ≠ c
theorem NT.a (V : World) (n : Nat) (s : ByteArray) (k : Int) : NT V n s k (V.heap.size + 1) V.heap.size ((V.alloc (.cells (madeCells #[.string ⟨#[]⟩] n) 22)).alloc (.cells #[.slice (some ⟨V.heap.size, 0, none⟩) n n, .string s, .int .i64 k] 31)) := by
  refine ⟨?_, ?_, ((Below.refl _ _).alloc (Nat.le_refl _) _).alloc (by simp) _, by omega, Nat.le_refl _, by omega⟩
  · have := TB.new (V.alloc (.cells (madeCells #[.string ⟨#[]⟩] n) 22)) (some ⟨V.heap.size, 0, none⟩) n n s k
    rwa [World.size_alloc] at this
  · exact (Below.heap_alloc _ _ _ (by simp)).trans (heap_alloc_new _ _)
theorem NT.b (V : World) (n : Nat) (s : ByteArray) (k : Int) : NT V n s k V.heap.size (V.heap.size + 1) ((V.alloc (.cells #[.slice (some ⟨V.heap.size + 1, 0, none⟩) n n, .string s, .int .i64 k] 31)).alloc (.cells (madeCells #[.string ⟨#[]⟩] n) 22)) := by
  refine ⟨?_, ?_, ((Below.refl _ _).alloc (Nat.le_refl _) _).alloc (by simp) _, Nat.le_refl _, by omega, by omega⟩
  · exact (TB.new V (some ⟨V.heap.size + 1, 0, none⟩) n n s k).nextT ((Below.refl _ _).alloc (Nat.le_refl _) _)
  · have := heap_alloc_new (V.alloc (.cells #[.slice (some ⟨V.heap.size + 1, 0, none⟩) n n, .string s, .int .i64 k] 31)) (.cells (madeCells #[.string ⟨#[]⟩] n) 22)
    rwa [World.size_alloc] at this
theorem wpList_copy_nats {w : World} {ops : Array Oper} {rest : List Oper} {o : Oper} {a : Act} {Q : Exit → Act → World → Prop} (hgd : o.guard = none) (d s : Operand)
    (ho : o.op = .call { callee := .builtin .copy, args := #[d, s], argTypes := #[29, 29] }) (g n cap : Nat) (A : Option Addr) (l : List ByteArray)
    (hd : a.eval d = .slice (some ⟨g, 0, none⟩) n n) (hs : a.eval s = .slice A n cap) (hg : w.heap[g]? = some (.cells (madeCells #[.string ⟨#[]⟩] n) 22 (0, 0))) (hl : SlN w A n cap l) (B : Nat) (w0 : World) (hb : Below B w0 w) (hBg : B ≤ g)
    (h : ∀ w', w'.heap[g]? = some (.cells (l.map Value.string).toArray 22 (0, 0)) → (∀ j, j ≠ g → w'.heap[j]? = w.heap[j]?) → Below B w0 w' → wpList Tryz.prog ops Q rest (a.put o.dst (goInt n)) w') : wpList Tryz.prog ops Q (o :: rest) a w := by
  have hll := hl.1
  obtain ⟨i0, hi, hz0, hz1, hz2⟩ := info_parts nat_info
  by_cases h0 : n = 0
  · subst h0
    refine wpList_copy_nothing hgd d s 29 29 ho 22 Tryz.underlying29 (by rw [hi]; simp [hz1]) _ _ _ _ _ _ hd hs rfl ?_
    obtain rfl := List.eq_nil_of_length_eq_zero hll
    exact h w (hg.trans (congrArg (fun c => some (Obj.cells c 22 (0, 0))) (show madeCells #[.string ⟨#[]⟩] 0 = #[] from by kernel_rfl))) (fun _ _ => rfl) hb
  · obtain ⟨b, o', rfl⟩ := hl.head (by omega)
    have := wpList_copy_own (ops := ops) (rest := rest) (Q := Q) (w := w) hgd d s 29 29 ho 22 Tryz.underlying29 (by rw [hi]; simp [hz1]) g 0 n n ⟨b, o', none⟩ n cap hd hs _ _ hg (l.map Value.string) (by simp [hll]) hl.cells (by simp [hll, size_madeCells]) (fun v hv => by obtain ⟨x, _, rfl⟩ := List.mem_map.1 hv; rfl)
    refine this ?_
    rw [List.length_map, hll]
    refine h _ ?_ (fun j hj => setRow_other _ _ _ _ hj) (below_setRow hb hBg _)
    rw [setRow_heap _ _ _ _ _ _ hg]
    refine congrArg (fun c => some (Obj.cells c 22 (0, 0))) (congrArg List.toArray ?_)
    rw [List.take_zero, List.nil_append, List.drop_eq_nil_of_le (by simp [hll, size_madeCells]), List.append_nil]
set_option maxRecDepth 100000 in
set_option maxHeartbeats 4000000 in
theorem co_drawV (l : List ByteArray) (s : ByteArray) (k N : Nat) (A : Option Addr) (n cap : Nat) (y : ByteArray) (hy : l[k]? = some y) (hk : k < n) (hn : n ≤ 1000) (vy : nvalid y = true) (hN : N < 256 ^ 128) (w : World) (hs : SlN w A n cap l) :
    Calls Tryz.prog 97 #[tpV A n cap s k, .string (nS N)] w (RetC (if num y < N then (num y, 0) else (0, 2)) (tpN (if num y < N then (num y, 0) else (0, 2)).2 l s k) w) := by
  obtain ⟨b, o, rfl⟩ := hs.head (by omega)
  have ly := num_lt (size_validC vy)
  have HCM := Lib.hid (nat_Cmp (nS (num y)) (nS N) (by have := nS_size_le.2 ly; omega) (by have := nS_size_le.2 hN; omega))
  rw [ncmp_n ly hN, ← nS_num vy] at HCM
  have hcm := cmpI_ltP (x := num y) (y := N)
  obtain ⟨k1, hk1⟩ : ∃ k, cmpI (num y) N = k := ⟨_, rfl⟩
  rw [hk1] at HCM hcm
  have HLEN := Lib.hid hs.1
  have hcap := hs.2.1
  have hcap2 := hs.2.2.1
  have hki : (k : Int) < (n : Int) := by omega
  obtain ⟨A, hA⟩ : ∃ A, some (⟨b, o, none⟩ : Addr) = A := ⟨_, rfl⟩
  have hs' := hs
  rw [hA] at hs
  have hb1 := ((Below.refl w.heap.size w).alloc (Nat.le_refl _) (.cells #[.slice A n cap, .string s, .int .i64 k] 31)).alloc (by simp) (.cells #[.slice none 0 0, .string ⟨#[]⟩, .int .i64 0] 31)
  have ht1 : TB ((w.alloc (.cells #[.slice A n cap, .string s, .int .i64 k] 31)).alloc (.cells #[.slice none 0 0, .string ⟨#[]⟩, .int .i64 0] 31)) w.heap.size A n cap s k := (TB.new w A n cap s k).nextT ((Below.refl _ _).alloc (Nat.le_refl _) _)
  have hr1 : TB ((w.alloc (.cells #[.slice A n cap, .string s, .int .i64 k] 31)).alloc (.cells #[.slice none 0 0, .string ⟨#[]⟩, .int .i64 0] 31)) (w.heap.size + 1) none 0 0 ⟨#[]⟩ 0 := by
    have := TB.new (w.alloc (.cells #[.slice A n cap, .string s, .int .i64 k] 31)) none 0 0 ⟨#[]⟩ 0
    rwa [World.size_alloc] at this
  obtain ⟨W1, hW1⟩ : ∃ W, (w.alloc (.cells #[.slice A n cap, .string s, .int .i64 k] 31)).alloc (.cells #[.slice none 0 0, .string ⟨#[]⟩, .int .i64 0] 31) = W := ⟨_, rfl⟩
  have HSZ := Lib.hid (show W1.heap.size = w.heap.size + 1 + 1 from by rw [← hW1]; simp)
  rw [hW1] at hb1 ht1 hr1
  have HB1 := Lib.hid hb1
  have HT1 := Lib.hid ht1
  have HR1 := Lib.hid hr1
  have hs1 := hs.kept hb1 (Nat.le_refl _)
  have HS0 := Lib.hid hs
  have HS1 := Lib.hid hs1
  obtain ⟨c0, c1, c2⟩ := ht1.c
  obtain ⟨r0, r1, r2⟩ := hr1.c
  have f0 := hr1.f 0
  have f1 := hr1.f 1
  have f2 := hr1.f 2
  subst hA
  have d0 := HS1.out.get? k hy
  have HY := Lib.hid hy
  obtain ⟨M, hM⟩ : ∃ M, nS N = M := ⟨_, rfl⟩
  rw [hM] at HCM ⊢
  unfold tpV
  by_cases hlt : num y < N
  · have hge : ¬ (0 ≤ k1) := by have : k1 < 0 := by rw [hcm]; exact hlt
                                omega
    have HNY := Lib.hid (nS_num vy)
    have hkk : ¬ ((k : Int) = 2147483647) := by omega
    rw [if_pos hlt]
    have HK := Lib.hid hk
    have HN1 := Lib.hid hn
    clear hlt hy hs hs' hb1 ht1 hr1 hs1 hcm hk1 vy ly hN hM hk
    go_enter Tryz.func97, Tryz.ntmps97
    go_wp2_with fail
    try rw [hW1]
    clear hW1
    refine (HCM.out _).mono ?_
    rintro ev w2 ⟨rfl, rfl⟩
    go_wp2
    rename_i K5 hK5
    refine wp_onlyN ?_
    obtain ⟨wd, hwd⟩ : ∃ wd, W1.drew = wd := ⟨_, rfl⟩
    have hbd : Below W1.heap.size W1 wd := by rw [← hwd]; exact (Below.refl _ _).drew
    have HTD := Lib.hid (HT1.out.nextT hbd)
    have HRD := Lib.hid (HR1.out.nextT hbd)
    have HBD := Lib.hid (HB1.out.trans (hbd.mono HB1.out.size))
    have HSZD := Lib.hid (show w.heap.size + 1 < wd.heap.size from by have := hbd.size; have := HSZ.out; omega)
    clear hbd c0 c1 c2 r0 r1 r2 f0 f1 f2 d0
    obtain ⟨c0, c1, c2⟩ := HTD.out.c
    have hmk := fun W => make_nats n (by have := HN1.out; omega) W
    have hk1 : (k : Int) ≤ 1000 := by have := HK.out; have := HN1.out; omega
    apply join2 (K := K5) (Fc := NT wd n s ((k : Int) + 1))
    · intro HJ
      have HJ := Lib.hid HJ
      refine wp_region_K 12 (Below (wd).heap.size (wd)) (by kernel_rfl) ?_
      intro hD
      rw [hwd]
      refine rP 0 45 11 rfl hD (Below.refl _ _) ?_; clear hD; intro hD; simp only [Act.put, sqA, sqB, sqC]
      refine rT 1 46 10 rfl hD (Below.refl _ _) (by intro w' hS'; have e0 := kC hS' c0; have e1 := kC hS' c1; have e2 := kC hS' c2; go_simp; with_reducible rfl) ?_; clear hD; intro hD; simp only [Act.put, sqA, sqB, sqC]
      refine rP 2 47 9 rfl hD (Below.refl _ _) ?_; clear hD; intro hD; simp only [Act.put, sqA, sqB, sqC]
      refine rP 4 49 8 rfl hD (Below.refl _ _) ?_; clear hD; intro hD; simp only [Act.put, sqA, sqB, sqC]
      refine rT 5 50 7 rfl hD (Below.refl _ _) (by intro w' hS'; have e0 := kC hS' c0; have e1 := kC hS' c1; have e2 := kC hS' c2; go_simp; with_reducible rfl) ?_; clear hD; intro hD; simp only [Act.put, sqA, sqB, sqC]
      refine rP 6 51 6 rfl hD (Below.refl _ _) ?_; clear hD; intro hD; simp only [Act.put, sqA, sqB, sqC]
      refine rT 7 52 5 rfl hD (Below.refl _ _) (by intro w' hS'; have e0 := kC hS' c0; have e1 := kC hS' c1; have e2 := kC hS' c2; go_simp; with_reducible rfl) ?_; clear hD; intro hD; simp only [Act.put, sqA, sqB, sqC]
      refine rP 8 53 4 rfl hD (Below.refl _ _) ?_; clear hD; intro hD; simp only [Act.put, sqA, sqB, sqC]
      refine wpAnyK_two (i := 3) (i' := 10) (fuel := 3) (by kernel_rfl) rfl rfl hD ?_ ?_ 
      · unfold StepK
        clear hD; intro K3 hK3
        go_wp2
        refine hK3 _ _ (by exact (Below.refl _ _).alloc (Nat.le_refl _) _) ?_; clear hK3; intro hS_5_3 hD
        refine rP 9 54 2 rfl hD hS_5_3 ?_; clear hD; intro hD; simp only [Act.put, sqA, sqB, sqC]
        refine rO 10 1 rfl hD ?_; clear hD; intro K10 hK10
        go_wp2
        refine hK10 _ _ (by exact Below.alloc hS_5_3 (Below.size hS_5_3) _) ?_; clear hK10; intro hS_5_10_3 hD
        refine rO 11 0 rfl hD ?_; clear hD; intro K11 hK11
        go_wp2
        refine hK11 _ _ (by exact ((Below.refl _ _).alloc (Nat.le_refl _) _).alloc (by simp) _) ?_; clear hK11; intro hS_5_11_3 hD
        refine wpAnyK_done (by kernel_rfl) ?_ 0
        clear hD
        show K5 _ _
        first
        | (have hF := NT.a wd n s ((k : Int) + 1)
           obtain ⟨wz, hwz⟩ : ∃ W, (wd.alloc (.cells (madeCells #[.string ⟨#[]⟩] n) 22)).alloc (.cells #[.slice (some ⟨wd.heap.size, 0, none⟩) n n, .string s, .int .i64 ((k : Int) + 1)] 31) = W := ⟨_, rfl⟩
           rw [hwz] at hF ⊢
           clear hwz
           obtain ⟨p, hp⟩ : ∃ p, wd.heap.size + 1 = p := ⟨_, rfl⟩
           rw [hp] at hF ⊢
           obtain ⟨q, hq⟩ : ∃ q, wd.heap.size = q := ⟨_, rfl⟩
           rw [hq] at hF ⊢
           exact HJ.out p q _ hF)
        | (have hF := NT.b wd n s ((k : Int) + 1)
           obtain ⟨wz, hwz⟩ : ∃ W, (wd.alloc (.cells #[.slice (some ⟨wd.heap.size + 1, 0, none⟩) n n, .string s, .int .i64 ((k : Int) + 1)] 31)).alloc (.cells (madeCells #[.string ⟨#[]⟩] n) 22) = W := ⟨_, rfl⟩
           rw [hwz] at hF ⊢
           clear hwz
           obtain ⟨p, hp⟩ : ∃ p, wd.heap.size + 1 = p := ⟨_, rfl⟩
           rw [hp] at hF ⊢
           obtain ⟨q, hq⟩ : ∃ q, wd.heap.size = q := ⟨_, rfl⟩
           rw [hq] at hF ⊢
           exact HJ.out q p _ hF)
      · unfold StepK
        clear hD; intro K10 hK10
        go_wp2
        refine hK10 _ _ (by exact (Below.refl _ _).alloc (Nat.le_refl _) _) ?_; clear hK10; intro hS_5_10 hD
        refine rO 3 2 rfl hD ?_; clear hD; intro K3 hK3
        go_wp2
        refine hK3 _ _ (by exact Below.alloc hS_5_10 (Below.size hS_5_10) _) ?_; clear hK3; intro hS_5_3_10 hD
        refine rP 9 54 1 rfl hD hS_5_3_10 ?_; clear hD; intro hD; simp only [Act.put, sqA, sqB, sqC]
        refine rO 11 0 rfl hD ?_; clear hD; intro K11 hK11
        go_wp2
        refine hK11 _ _ (by exact ((Below.refl _ _).alloc (Nat.le_refl _) _).alloc (by simp) _) ?_; clear hK11; intro hS_5_11_10 hD
        refine wpAnyK_done (by kernel_rfl) ?_ 0
        clear hD
        show K5 _ _
        first
        | (have hF := NT.a wd n s ((k : Int) + 1)
           obtain ⟨wz, hwz⟩ : ∃ W, (wd.alloc (.cells (madeCells #[.string ⟨#[]⟩] n) 22)).alloc (.cells #[.slice (some ⟨wd.heap.size, 0, none⟩) n n, .string s, .int .i64 ((k : Int) + 1)] 31) = W := ⟨_, rfl⟩
           rw [hwz] at hF ⊢
           clear hwz
           obtain ⟨p, hp⟩ : ∃ p, wd.heap.size + 1 = p := ⟨_, rfl⟩
           rw [hp] at hF ⊢
           obtain ⟨q, hq⟩ : ∃ q, wd.heap.size = q := ⟨_, rfl⟩
           rw [hq] at hF ⊢
           exact HJ.out p q _ hF)
        | (have hF := NT.b wd n s ((k : Int) + 1)
           obtain ⟨wz, hwz⟩ : ∃ W, (wd.alloc (.cells #[.slice (some ⟨wd.heap.size + 1, 0, none⟩) n n, .string s, .int .i64 ((k : Int) + 1)] 31)).alloc (.cells (madeCells #[.string ⟨#[]⟩] n) 22) = W := ⟨_, rfl⟩
           rw [hwz] at hF ⊢
           clear hwz
           obtain ⟨p, hp⟩ : ∃ p, wd.heap.size + 1 = p := ⟨_, rfl⟩
           rw [hp] at hF ⊢
           obtain ⟨q, hq⟩ : ∃ q, wd.heap.size = q := ⟨_, rfl⟩
           rw [hq] at hF ⊢
           exact HJ.out q p _ hF)
    · intro b7 c7 wz hz
      obtain ⟨ht7, hc7, hbz, hb7, hc7', hne⟩ := hz
      refine hK5 _ _ ?_
      clear hK5 hmk c0 c1 c2
      have HTZ := Lib.hid (HTD.out.nextT hbz)
      have HRZ := Lib.hid (HRD.out.nextT hbz)
      have HBZ := Lib.hid (HBD.out.trans (hbz.mono HBD.out.size))
      have HSL := Lib.hid (HS0.out.kept HBZ.out (Nat.le_refl _))
      have H7 := Lib.hid ht7
      have HC7 := Lib.hid hc7
      have HX := Lib.hid (show w.heap.size + 1 < b7 ∧ w.heap.size + 1 < c7 ∧ b7 ≠ c7 from by have := HSZD.out; omega)
      obtain ⟨c0, c1, c2⟩ := HTZ.out.c
      obtain ⟨p0, p1, p2⟩ := ht7.c
      clear ht7 hc7 hbz hb7 hc7' hne
      go_wp2_with (refine wpList_copy_nats rfl (.tmp 56) (.tmp 58) rfl c7 n cap _ l rfl rfl HC7.out HSL.out w.heap.size w HBZ.out (by have := HX.out; omega) ?_)
      intro w3 hc3 ho3 hb3
      have ht3 : TB w3 w.heap.size (some ⟨b, o, none⟩) n cap s k := (ho3 _ (by have := HX.out; omega)).trans HTZ.out
      have hr3 : TB w3 (w.heap.size + 1) none 0 0 ⟨#[]⟩ 0 := (ho3 _ (by have := HX.out; omega)).trans HRZ.out
      have h73 : TB w3 b7 (some ⟨c7, 0, none⟩) n n s ((k : Int) + 1) := (ho3 _ (by have := HX.out; omega)).trans H7.out
      have hs3 : SlN w3 (some ⟨c7, 0, none⟩) n n l := by
        have := sln_heap hc3 (by have := HLEN.out; omega)
        rwa [HLEN.out] at this
      have HT3 := Lib.hid ht3
      have HR3 := Lib.hid hr3
      have H73 := Lib.hid h73
      have HS3 := Lib.hid hs3
      have HB3 := Lib.hid hb3
      have HC3 := Lib.hid hc3
      clear c0 c1 c2 p0 p1 p2 hc3 ho3 hb3 ht3 hr3 h73 hs3
      obtain ⟨c0, c1, c2⟩ := HT3.out.c
      go_wp2
      obtain ⟨we, hwe⟩ : ∃ we, w3.drew = we := ⟨_, rfl⟩
      have hbe : Below w3.heap.size w3 we := by rw [← hwe]; exact (Below.refl _ _).drew
      have HCE := Lib.hid ((hbe.block c7 (block_lt HC3.out)).trans HC3.out)
      have HS0E := Lib.hid (show Below w.heap.size w we ∧ TB we w.heap.size (some ⟨b, o, none⟩) n cap s k ∧ TB we b7 (some ⟨c7, 0, none⟩) n n s ((k : Int) + 1) from ⟨HB3.out.trans (hbe.mono HB3.out.size), HT3.out.nextT hbe, H73.out.nextT hbe⟩)
      have HRE := Lib.hid (HR3.out.nextT hbe)
      clear hbe c0 c1 c2
      obtain ⟨r0, r1, r2⟩ := HRE.out.c
      have f0 := HRE.out.f 0
      have f1 := HRE.out.f 1
      have f2 := HRE.out.f 2
      refine wp_region_K 10 (fun W' => Below w.heap.size w W' ∧ TB W' w.heap.size (some ⟨b, o, none⟩) n cap s k ∧ TB W' b7 (some ⟨c7, 0, none⟩) n n s ((k : Int) + 1)) (by kernel_rfl) ?_
      intro hD
      rw [hwe]
      have KK2 := Lib.hid (fun w' (hS' : (fun W' => Below w.heap.size w W' ∧ TB W' w.heap.size (some ⟨b, o, none⟩) n cap s k ∧ TB W' b7 (some ⟨c7, 0, none⟩) n n s ((k : Int) + 1)) w') => And.intro (hS'.2.1.c.1) (And.intro (hS'.2.1.c.2.1) (And.intro (hS'.2.1.c.2.2) (And.intro ((HS0.out.kept hS'.1 (Nat.le_refl _)).get? k HY.out) (And.intro (hS'.2.2.c.1) (And.intro (hS'.2.2.c.2.1) (hS'.2.2.c.2.2)))))))
      refine rP 0 66 9 rfl hD HS0E.out ?_; clear hD; intro hD; simp only [Act.put, sqA, sqB, sqC]
      refine rT 1 67 8 rfl hD HS0E.out (by intro w' hS'; obtain ⟨e0, e1, e2, e3, e4, e5, e6⟩ := KK2.out w' hS'; go_simp; with_reducible rfl) ?_; clear hD; intro hD; simp only [Act.put, sqA, sqB, sqC]
      refine rP 2 68 7 rfl hD HS0E.out ?_; clear hD; intro hD; simp only [Act.put, sqA, sqB, sqC]
      refine rT 3 69 6 rfl hD HS0E.out (by intro w' hS'; obtain ⟨e0, e1, e2, e3, e4, e5, e6⟩ := KK2.out w' hS'; go_simp; with_reducible rfl) ?_; clear hD; intro hD; simp only [Act.put, sqA, sqB, sqC]
      refine rP 4 70 5 rfl hD HS0E.out ?_; clear hD; intro hD; simp only [Act.put, sqA, sqB, sqC]
      refine rT 5 71 4 rfl hD HS0E.out (by intro w' hS'; obtain ⟨e0, e1, e2, e3, e4, e5, e6⟩ := KK2.out w' hS'; go_simp; with_reducible rfl) ?_; clear hD; intro hD; simp only [Act.put, sqA, sqB, sqC]
      refine rT 6 72 3 rfl hD HS0E.out (by intro w' hS'; obtain ⟨e0, e1, e2, e3, e4, e5, e6⟩ := KK2.out w' hS'; go_simp; with_reducible rfl) ?_; clear hD; intro hD; simp only [Act.put, sqA, sqB, sqC]
      refine rO 7 2 rfl hD ?_; clear hD; intro K7 hK7
      go_wp2
      refine hK7 _ _ (by exact HS0E.out) ?_; clear hK7; intro hS_8_7 hD
      refine rO 8 1 rfl hD ?_; clear hD; intro K8 hK8
      go_wp2
      refine hK8 _ _ (by exact ⟨below_set3 (hS_8_7).1 (by omega) _ _ _, (((hS_8_7).2.1.off (by omega) _).off (by omega) _).off (by omega) _, (((hS_8_7).2.2.off (by have := HX.out; omega) _).off (by have := HX.out; omega) _).off (by have := HX.out; omega) _⟩) ?_; clear hK8; intro hS_8_8 hD
      refine rO 9 0 rfl hD ?_; clear hD; intro K9 hK9
      go_wp2
      refine hK9 _ _ (by exact hS_8_8) ?_; clear hK9; intro hS_8_9 hD
      refine wpAnyK_done (by kernel_rfl) ?_ 0
      clear hD r0 r1 r2 f0 f1 f2
      have hq := HRE.out.set3 (A' := some (⟨c7, 0, none⟩ : Addr)) (n' := n) (c' := n) (s' := s) (a' := (k : Int) + 1)
      obtain ⟨q0, q1, q2⟩ := hq.c
      have HBQ := Lib.hid (hS_8_9).1
      go_wp2
      refine bodyPost_ret (v := .tuple #[.string y, .agg #[.slice (some ⟨c7, 0, none⟩) n n, .string s, .int .i64 ((k : Int) + 1)], .int .i64 0]) (by simp [results, Tryz.results97, go_sem, q0, q1, q2]) rfl ?_
      refine ⟨some ⟨c7, 0, none⟩, n, ?_, ?_, (fun b o h => by cases h; have := HX.out; omega), HBQ.out⟩
      · show _ = Ending.returned (.tuple #[.string (nS (num y)), .agg #[.slice (some ⟨c7, 0, none⟩) l.length n, .string s, .int .i64 ((k : Int) + 1)], .int .i64 0])
        rw [HLEN.out, ← HNY.out]
      · show SlN _ _ l.length n l
        have hne : c7 ≠ w.heap.size + 1 := by have := HX.out; omega
        have hc8 : (((we.setCell ⟨w.heap.size + 1, 0, none⟩ (.slice (some ⟨c7, 0, none⟩) n n)).setCell ⟨w.heap.size + 1, 1, none⟩ (.string s)).setCell ⟨w.heap.size + 1, 2, none⟩ (.int .i64 ((k : Int) + 1))).heap[c7]? = some (.cells (l.map Value.string).toArray 22 (0, 0)) :=
          (heap_setCell_other _ _ _ _ hne).trans ((heap_setCell_other _ _ _ _ hne).trans ((heap_setCell_other _ _ _ _ hne).trans HCE.out))
        have := sln_heap hc8 (by have := HLEN.out; omega)
        rwa [HLEN.out] at this ⊢
  · have hge : 0 ≤ k1 := by have : ¬ (k1 < 0) := by rw [hcm]; exact hlt
                            omega
    rw [if_neg hlt]
    clear hlt hy hs hs' hb1 ht1 hs1 hcm hk1 vy ly hN hM hk
    go_enter Tryz.func97, Tryz.ntmps97
    go_wp2_with fail
    try rw [hW1]
    clear hW1
    refine (HCM.out _).mono ?_
    rintro ev w2 ⟨rfl, rfl⟩
    have hq := hr1.set3 (A' := none) (n' := 0) (c' := 0) (s' := ⟨#[]⟩) (a' := 0)
    obtain ⟨q0, q1, q2⟩ := hq.c
    have HBQ := Lib.hid (below_set3 HB1.out (C := w.heap.size + 1) (by omega) (.slice none 0 0) (.string ⟨#[]⟩) (.int .i64 0))
    clear hr1 hq
    go_wp2
    refine bodyPost_ret (v := .tuple #[.string ⟨#[]⟩, .agg #[.slice none 0 0, .string ⟨#[]⟩, .int .i64 0], .int .i64 2]) (by simp [results, Tryz.results97, go_sem, q0, q1, q2]) rfl ?_
    exact ⟨none, 0, rfl, SlN.nil _ 0 (by omega) none, (fun b o h => by cases h), HBQ.out⟩
end Go.Proofs.YtndmjfkmnjejkaaGreatDoor
/- Walk: coins.Below, over a contract of coins.draw; where the tape has a value. -/
set_option linter.unusedVariables false
set_option linter.unusedSimpArgs false
namespace Go.Proofs.YtndmjfkmnjejkaaGreatDoor
open Go.RowKit
theorem tpN_err {e : Int} (h : ¬ e = 0) (l : List ByteArray) (s : ByteArray) (k : Int) : tpN e l s k = ([], ⟨#[]⟩, 0) := if_neg h
theorem SlN.setB {W : World} {A : Option Addr} {n c R k : Nat} {l : List ByteArray} {u : Value} (h : SlN W A n c l) (hf : ∀ b o, A = some ⟨b, o, none⟩ → R < b) : SlN (W.setCell ⟨R, k, none⟩ u) A n c l := by
  obtain ⟨h1, h2, h3, b, o, h4, h5⟩ := h
  refine ⟨h1, h2, h3, b, o, h4, fun j s hj => ?_⟩
  have hlt := (List.getElem?_eq_some_iff.1 hj).1
  have hb := hf b o (h4 (by omega))
  have e : (W.setCell ⟨R, k, none⟩ u).heap[b]? = W.heap[b]? := heap_setCell_other _ _ _ _ (by simp; omega)
  have := h5 j s hj
  unfold World.cell? at this ⊢
  rw [e]
  exact this
set_option maxRecDepth 100000 in
set_option maxHeartbeats 4000000 in
theorem co_Below_of (l : List ByteArray) (s : ByteArray) (k : Int) (N : ByteArray) (A : Option Addr) (n cap : Nat) (hp : ∀ x ∈ l, x.size ≤ 9223372036854775807) (hN : N.size ≤ 9223372036854775807) (w : World)
    (hd : tpG l k = true → nvalid N = true → N.toList.isEmpty = false → ∀ W, Below w.heap.size w W → SlN W A n cap l → Calls Tryz.prog 97 #[tpV A n cap s k, .string N] W (RetC (dwN l s k (num N)) (tpN (dwN l s k (num N)).2 l s k) W)) (hs : SlN w A n cap l) :
    Calls Tryz.prog 49 #[tpV A n cap s k, .string N] w (RetC (coN l s k N) (tpN (coN l s k N).2 l s k) w) := by
  have HRD := Lib.hid (fun W hs => co_ready l s k N A n cap W hs hp hN)
  have HD := Lib.hid hd
  clear hd
  have hb1 := ((Below.refl w.heap.size w).alloc (Nat.le_refl _) (.cells #[.slice A n cap, .string s, .int .i64 k] 31)).alloc (by simp) (.cells #[.slice none 0 0, .string ⟨#[]⟩, .int .i64 0] 31)
  have ht1 : TB ((w.alloc (.cells #[.slice A n cap, .string s, .int .i64 k] 31)).alloc (.cells #[.slice none 0 0, .string ⟨#[]⟩, .int .i64 0] 31)) w.heap.size A n cap s k := (TB.new w A n cap s k).nextT ((Below.refl _ _).alloc (Nat.le_refl _) _)
  have hr1 : TB ((w.alloc (.cells #[.slice A n cap, .string s, .int .i64 k] 31)).alloc (.cells #[.slice none 0 0, .string ⟨#[]⟩, .int .i64 0] 31)) (w.heap.size + 1) none 0 0 ⟨#[]⟩ 0 := by
    have := TB.new (w.alloc (.cells #[.slice A n cap, .string s, .int .i64 k] 31)) none 0 0 ⟨#[]⟩ 0
    rwa [World.size_alloc] at this
  obtain ⟨W1, hW1⟩ : ∃ W, (w.alloc (.cells #[.slice A n cap, .string s, .int .i64 k] 31)).alloc (.cells #[.slice none 0 0, .string ⟨#[]⟩, .int .i64 0] 31) = W := ⟨_, rfl⟩
  have HSZ := Lib.hid (show W1.heap.size = w.heap.size + 1 + 1 from by rw [← hW1]; simp)
  rw [hW1] at hb1 ht1 hr1
  have HB1 := Lib.hid hb1
  have HT1 := Lib.hid ht1
  have HR1 := Lib.hid hr1
  have hs1 := hs.kept hb1 (Nat.le_refl _)
  have HS0 := Lib.hid hs
  have HS1 := Lib.hid hs1
  obtain ⟨c0, c1, c2⟩ := ht1.c
  obtain ⟨r0, r1, r2⟩ := hr1.c
  have f0 := hr1.f 0
  have f1 := hr1.f 1
  have f2 := hr1.f 2
  have HRR := Lib.hid (show rdN l k N = if (tpG l k && nvalid N) = true then (if N.toList.isEmpty = true then 11 else 0) else 3 from rfl)
  have HRC := Lib.hid (show coN l s k N = if (tpG l k && nvalid N) = true then (if N.toList.isEmpty = true then (0, 11) else dwN l s k (num N)) else (0, 3) from rfl)
  unfold tpV at *
  by_cases he : rdN l k N = 0
  · have hok : tpG l k = true ∧ nvalid N = true ∧ N.toList.isEmpty = false := by
      rw [HRR.out] at he
      split at he
      · rename_i h1
        rw [Bool.and_eq_true] at h1
        split at he
        · cases he
        · rename_i h2; exact ⟨h1.1, h1.2, by simpa using h2⟩
      · cases he
    have HDD := Lib.hid (HD.out hok.1 hok.2.1 hok.2.2)
    rw [HRC.out, hok.1, hok.2.1, hok.2.2]
    simp only [Bool.and_self, if_true, Bool.false_eq_true, if_false]
    obtain ⟨r, hr⟩ : ∃ r, dwN l s k (num N) = r := ⟨_, rfl⟩
    obtain ⟨x1, e1⟩ := r
    rw [hr] at HDD ⊢
    obtain ⟨t, ht⟩ : ∃ t, tpN e1 l s k = t := ⟨_, rfl⟩
    obtain ⟨tl, ts, tk⟩ := t
    simp only [] at HDD ⊢
    rw [ht] at HDD ⊢
    rw [he] at HRD
    have HRDD := Lib.hid (HRD.out W1 HS1.out)
    clear he hok hr ht hs hs1 hb1 ht1 hr1 r0 r1 r2 f0 f1 f2 hp hN HRR HRC HD HRD
    go_enter Tryz.func49, Tryz.ntmps49
    go_wp2_with fail
    try rw [hW1]
    clear hW1
    refine (HRDD.out).mono ?_
    rintro ev w2 ⟨rfl, hb2⟩
    have HT2 := Lib.hid (HT1.out.nextT hb2)
    have HR2 := Lib.hid (HR1.out.nextT hb2)
    have HB2 := Lib.hid (HB1.out.trans (hb2.mono HB1.out.size))
    have HS2 := Lib.hid (HS1.out.kept hb2 (Nat.le_refl _))
    have HD2 := Lib.hid (HDD.out w2 HB2.out HS2.out)
    clear c0 c1 c2 hb2
    obtain ⟨c0, c1, c2⟩ := HT2.out.c
    go_wp2_with fail
    refine (HD2.out).mono ?_
    rintro ev w3 ⟨B, c, rfl, hsl, hfr, hb3⟩
    have HR3 := Lib.hid (HR2.out.nextT hb3)
    have HB3 := Lib.hid (HB2.out.trans (hb3.mono HB2.out.size))
    have HSL := Lib.hid hsl
    have HFR := Lib.hid (show ∀ b o, B = some ⟨b, o, none⟩ → w.heap.size + 1 < b from fun b o h => Nat.lt_of_lt_of_le HR2.out.lt (hfr b o h))
    obtain ⟨m, hm⟩ : ∃ m, tl.length = m := ⟨_, rfl⟩
    have HM := Lib.hid hm
    clear c0 c1 c2 hsl hb3 hfr
    simp only []
    rw [hm]
    clear hm
    obtain ⟨r0, r1, r2⟩ := HR3.out.c
    have f0 := HR3.out.f 0
    have f1 := HR3.out.f 1
    have f2 := HR3.out.f 2
    have hq := HR3.out.set3 (A' := B) (n' := m) (c' := c) (s' := ts) (a' := tk)
    obtain ⟨q0, q1, q2⟩ := hq.c
    have HBQ := Lib.hid (below_set3 HB3.out (C := w.heap.size + 1) (by omega) (.slice B m c) (.string ts) (.int .i64 tk))
    clear hq
    obtain ⟨z, hz⟩ : ∃ z, nS x1 = z := ⟨_, rfl⟩
    rw [hz]
    go_wp2
    refine bodyPost_ret (v := .tuple #[.string z, .agg #[.slice B m c, .string ts, .int .i64 tk], .int .i64 e1]) (by simp [results, Tryz.results49, go_sem, q0, q1, q2]) rfl ?_
    refine ⟨B, c, ?_, ?_, (fun b o h => by have := HFR.out b o h; omega), HBQ.out⟩
    · show _ = Ending.returned (.tuple #[.string (nS x1), .agg #[.slice B tl.length c, .string ts, .int .i64 tk], .int .i64 e1])
      rw [HM.out, hz]
    · show SlN _ _ tl.length c tl
      exact ((HSL.out.setB HFR.out).setB HFR.out).setB HFR.out
  · have hne : ∃ e, rdN l k N = e ∧ ¬ e = 0 ∧ coN l s k N = (0, e) := by
      refine ⟨_, rfl, he, ?_⟩
      rw [HRC.out, HRR.out]
      rw [HRR.out] at he
      split
      · rename_i h1
        rw [if_pos h1] at he
        split
        · rfl
        · rename_i h2; rw [if_neg h2] at he; exact absurd rfl he
      · rfl
    obtain ⟨e1, he1, hn0, hcc⟩ := hne
    rw [hcc, tpN_err hn0]
    rw [he1] at HRD
    have HRDD := Lib.hid (HRD.out W1 HS1.out)
    clear he he1 hcc hs hs1 hb1 ht1 hr1 hp hN HRR HRC HD HRD r0 r1 r2 f0 f1 f2
    go_enter Tryz.func49, Tryz.ntmps49
    go_wp2_with fail
    try rw [hW1]
    clear hW1
    refine (HRDD.out).mono ?_
    rintro ev w2 ⟨rfl, hb2⟩
    have HR2 := Lib.hid (HR1.out.nextT hb2)
    have HB2 := Lib.hid (HB1.out.trans (hb2.mono HB1.out.size))
    obtain ⟨r0, r1, r2⟩ := HR2.out.c
    have f0 := HR2.out.f 0
    have f1 := HR2.out.f 1
    have f2 := HR2.out.f 2
    have hq := HR2.out.set3 (A' := none) (n' := 0) (c' := 0) (s' := ⟨#[]⟩) (a' := 0)
    obtain ⟨q0, q1, q2⟩ := hq.c
    have HBQ := Lib.hid (below_set3 HB2.out (C := w.heap.size + 1) (by omega) (.slice none 0 0) (.string ⟨#[]⟩) (.int .i64 0))
    clear hq c0 c1 c2 hb2
    go_wp2
    refine bodyPost_ret (v := .tuple #[.string ⟨#[]⟩, .agg #[.slice none 0 0, .string ⟨#[]⟩, .int .i64 0], .int .i64 e1]) (by simp [results, Tryz.results49, go_sem, q0, q1, q2]) rfl ?_
    exact ⟨none, 0, rfl, SlN.nil _ 0 (by omega) none, (fun b o h => by cases h), HBQ.out⟩
set_option maxRecDepth 100000 in
theorem co_BelowV (l : List ByteArray) (s : ByteArray) (k N : Nat) (A : Option Addr) (n cap : Nat) (hk : k < n) (hn : n ≤ 1000) (hp : ∀ x ∈ l, x.size ≤ 9223372036854775807) (hN : N < 256 ^ 128) (w : World) (hs : SlN w A n cap l) :
    Calls Tryz.prog 49 #[tpV A n cap s k, .string (nS N)] w (RetC (coN l s k (nS N)) (tpN (coN l s k (nS N)).2 l s k) w) := by
  have hN2 := nS_size_le.2 hN
  refine co_Below_of l s k (nS N) A n cap hp (by omega) w (fun hg _ _ W _ hsW => ?_) hs
  have hlen := hsW.1
  have hall : l.all nvalid = true := by unfold tpG at hg; rw [Bool.and_eq_true] at hg; exact hg.2
  obtain ⟨y, hy⟩ : ∃ y, l[k]? = some y := ⟨_, List.getElem?_eq_getElem (by omega)⟩
  have e : dwN l s k (num (nS N)) = if num y < N then (num y, 0) else (0, 2) := by
    unfold dwN
    rw [if_pos (by omega), Int.toNat_natCast, List.getD_eq_getElem?_getD, hy, num_nS]
    rfl
  rw [e]
  exact co_drawV l s k N A n cap y hy hk hn (List.all_eq_true.1 hall y (List.mem_of_getElem? hy)) hN W hsW
end Go.Proofs.YtndmjfkmnjejkaaGreatDoor
/- Walk: schnorr.Make, over a contract of coins.Below. -/
set_option linter.unusedVariables false
set_option linter.unusedSimpArgs false
namespace Go.Proofs.YtndmjfkmnjejkaaGreatDoor
open Go.RowKit Go.Lib
def mkN (M O G : ByteArray) (l : List ByteArray) (s : ByteArray) (k : Int) : Nat × Nat × Int :=
  if ([M, O, G].all nvalid && tpG l k) = true then
    if chkK M O = 0 then
      if (O.toList.isEmpty || !genK M O G) = true then (0, 0, 13)
      else if (coN l s k (nS (num O - 1))).2 = 0 then
        (if num G ^ ((coN l s k (nS (num O - 1))).1 + 1) % num M = 1 then (0, 0, 13) else (num G ^ ((coN l s k (nS (num O - 1))).1 + 1) % num M, (coN l s k (nS (num O - 1))).1 + 1, 0))
      else (0, 0, (coN l s k (nS (num O - 1))).2)
    else (0, 0, chkK M O)
  else (0, 0, 3)
def mkK (M O G : ByteArray) (r : Nat × Nat × Int) : Array Value := if r.2.2 = 0 then #[.string M, .string O, .string G, .string (nS r.1)] else #[.string ⟨#[]⟩, .string ⟨#[]⟩, .string ⟨#[]⟩, .string ⟨#[]⟩]
def RetM (K : Array Value) (x : Nat) (t : List ByteArray × ByteArray × Int) (e : Int) (w : World) (en : Ending) (w' : World) : Prop :=
  ∃ A c, en = .returned (.tuple #[.agg K, .string (nS x), .agg #[.slice A t.1.length c, .string t.2.1, .int .i64 t.2.2], .int .i64 e]) ∧ SlN w' A t.1.length c t.1 ∧ (∀ b o, A = some ⟨b, o, none⟩ → w.heap.size ≤ b) ∧ Below w.heap.size w w'
def MB (w W : World) (M O : ByteArray) (A : Option Addr) (n cap : Nat) (s : ByteArray) (k : Int) (l : List ByteArray) : Prop :=
  Bx2 W w.heap.size (.string M) (.string O) 24 ∧ TB W (w.heap.size + 1) A n cap s k ∧ Bx4 W (w.heap.size + 1 + 1) (.string ⟨#[]⟩) (.string ⟨#[]⟩) (.string ⟨#[]⟩) (.string ⟨#[]⟩) 46 ∧ TB W (w.heap.size + 1 + 1 + 1) none 0 0 ⟨#[]⟩ 0 ∧ SlN W A n cap l ∧ Below w.heap.size w W
theorem MB.nextM {w W W' : World} {M O : ByteArray} {A : Option Addr} {n cap : Nat} {s : ByteArray} {k : Int} {l : List ByteArray} (h : MB w W M O A n cap s k l) (hb : Below W.heap.size W W') : MB w W' M O A n cap s k l :=
  ⟨h.1.next hb, h.2.1.nextT hb, h.2.2.1.next hb, h.2.2.2.1.nextT hb, h.2.2.2.2.1.kept hb (Nat.le_refl _), h.2.2.2.2.2.trans (hb.mono h.2.2.2.2.2.size)⟩
theorem MB.newM (w : World) (M O : ByteArray) (A : Option Addr) (n cap : Nat) (s : ByteArray) (k : Int) (l : List ByteArray) (hs : SlN w A n cap l) :
    MB w ((((w.alloc (.cells #[.string M, .string O] 24)).alloc (.cells #[.slice A n cap, .string s, .int .i64 k] 31)).alloc (.cells #[.string ⟨#[]⟩, .string ⟨#[]⟩, .string ⟨#[]⟩, .string ⟨#[]⟩] 46)).alloc (.cells #[.slice none 0 0, .string ⟨#[]⟩, .int .i64 0] 31)) M O A n cap s k l := by
  obtain ⟨w1, h1⟩ : ∃ W, w.alloc (.cells #[.string M, .string O] 24) = W := ⟨_, rfl⟩
  have b1 : Below w.heap.size w w1 := h1 ▸ (Below.refl _ _).alloc (Nat.le_refl _) _
  have x1 : Bx2 w1 w.heap.size (.string M) (.string O) 24 := h1 ▸ Bx2.new _ _ _ _
  have s1 : w1.heap.size = w.heap.size + 1 := by rw [← h1]; simp
  rw [h1]
  obtain ⟨w2, h2⟩ : ∃ W, w1.alloc (.cells #[.slice A n cap, .string s, .int .i64 k] 31) = W := ⟨_, rfl⟩
  have b2 : Below w1.heap.size w1 w2 := h2 ▸ (Below.refl _ _).alloc (Nat.le_refl _) _
  have x2 : TB w2 w1.heap.size A n cap s k := h2 ▸ TB.new _ _ _ _ _ _
  have s2 : w2.heap.size = w.heap.size + 1 + 1 := by rw [← h2]; simp [s1]
  rw [h2]
  obtain ⟨w3, h3⟩ : ∃ W, w2.alloc (.cells #[.string ⟨#[]⟩, .string ⟨#[]⟩, .string ⟨#[]⟩, .string ⟨#[]⟩] 46) = W := ⟨_, rfl⟩
  have b3 : Below w2.heap.size w2 w3 := h3 ▸ (Below.refl _ _).alloc (Nat.le_refl _) _
  have x3 : Bx4 w3 w2.heap.size (.string ⟨#[]⟩) (.string ⟨#[]⟩) (.string ⟨#[]⟩) (.string ⟨#[]⟩) 46 := h3 ▸ Bx4.new _ _ _ _ _ _
  have s3 : w3.heap.size = w.heap.size + 1 + 1 + 1 := by rw [← h3]; simp [s2]
  rw [h3]
  obtain ⟨w4, h4⟩ : ∃ W, w3.alloc (.cells #[.slice none 0 0, .string ⟨#[]⟩, .int .i64 0] 31) = W := ⟨_, rfl⟩
  have b4 : Below w3.heap.size w3 w4 := h4 ▸ (Below.refl _ _).alloc (Nat.le_refl _) _
  have x4 : TB w4 w3.heap.size none 0 0 ⟨#[]⟩ 0 := h4 ▸ TB.new _ _ _ _ _ _
  rw [h4]
  rw [s1] at x2
  rw [s2] at x3
  rw [s3] at x4
  have bb := ((b1.trans (b2.mono b1.size)).trans (b3.mono (by rw [s2]; omega))).trans (b4.mono (by rw [s3]; omega))
  exact ⟨((x1.next b2).next b3).next b4, (x2.nextT b3).nextT b4, x3.next b4, x4, hs.kept bb (Nat.le_refl _), bb⟩
theorem Bx4.off3 {W : World} {B C : Nat} {x y z u a b c : Value} {T : TypeId} (h : Bx4 W B x y z u T) (hne : B ≠ C) : Bx4 (((W.setCell ⟨C, 0, none⟩ a).setCell ⟨C, 1, none⟩ b).setCell ⟨C, 2, none⟩ c) B x y z u T := ((h.other hne _).other hne _).other hne _
theorem TB.off4 {W : World} {B C : Nat} {A : Option Addr} {n c : Nat} {s : ByteArray} {a : Int} {x y z u : Value} (h : TB W B A n c s a) (hne : B ≠ C) : TB ((((W.setCell ⟨C, 0, none⟩ x).setCell ⟨C, 1, none⟩ y).setCell ⟨C, 2, none⟩ z).setCell ⟨C, 3, none⟩ u) B A n c s a := (((h.off hne _).off hne _).off hne _).off hne _
theorem bx2_off3 {W : World} {B C : Nat} {x y a b c : Value} {T : TypeId} (h : Bx2 W B x y T) (hne : B ≠ C) : Bx2 (((W.setCell ⟨C, 0, none⟩ a).setCell ⟨C, 1, none⟩ b).setCell ⟨C, 2, none⟩ c) B x y T :=
  (heap_setCell_other _ _ _ _ hne).trans ((heap_setCell_other _ _ _ _ hne).trans ((heap_setCell_other _ _ _ _ hne).trans h))
theorem bx2_off4 {W : World} {B C : Nat} {x y a b c d : Value} {T : TypeId} (h : Bx2 W B x y T) (hne : B ≠ C) : Bx2 ((((W.setCell ⟨C, 0, none⟩ a).setCell ⟨C, 1, none⟩ b).setCell ⟨C, 2, none⟩ c).setCell ⟨C, 3, none⟩ d) B x y T :=
  (heap_setCell_other _ _ _ _ hne).trans (bx2_off3 h hne)
theorem MB.stored {w W : World} {M O : ByteArray} {A : Option Addr} {n cap : Nat} {s : ByteArray} {k : Int} {l : List ByteArray} (h : MB w W M O A n cap s k l) (x y z u : Value) (A' : Option Addr) (n' c' : Nat) (s' : ByteArray) (a' : Int) :
    Bx4 (((((((W.setCell ⟨w.heap.size + 1 + 1, 0, none⟩ x).setCell ⟨w.heap.size + 1 + 1, 1, none⟩ y).setCell ⟨w.heap.size + 1 + 1, 2, none⟩ z).setCell ⟨w.heap.size + 1 + 1, 3, none⟩ u).setCell ⟨w.heap.size + 1 + 1 + 1, 0, none⟩ (.slice A' n' c')).setCell ⟨w.heap.size + 1 + 1 + 1, 1, none⟩ (.string s')).setCell ⟨w.heap.size + 1 + 1 + 1, 2, none⟩ (.int .i64 a')) (w.heap.size + 1 + 1) x y z u 46 ∧
    TB (((((((W.setCell ⟨w.heap.size + 1 + 1, 0, none⟩ x).setCell ⟨w.heap.size + 1 + 1, 1, none⟩ y).setCell ⟨w.heap.size + 1 + 1, 2, none⟩ z).setCell ⟨w.heap.size + 1 + 1, 3, none⟩ u).setCell ⟨w.heap.size + 1 + 1 + 1, 0, none⟩ (.slice A' n' c')).setCell ⟨w.heap.size + 1 + 1 + 1, 1, none⟩ (.string s')).setCell ⟨w.heap.size + 1 + 1 + 1, 2, none⟩ (.int .i64 a')) (w.heap.size + 1 + 1 + 1) A' n' c' s' a' ∧
    Below w.heap.size w (((((((W.setCell ⟨w.heap.size + 1 + 1, 0, none⟩ x).setCell ⟨w.heap.size + 1 + 1, 1, none⟩ y).setCell ⟨w.heap.size + 1 + 1, 2, none⟩ z).setCell ⟨w.heap.size + 1 + 1, 3, none⟩ u).setCell ⟨w.heap.size + 1 + 1 + 1, 0, none⟩ (.slice A' n' c')).setCell ⟨w.heap.size + 1 + 1 + 1, 1, none⟩ (.string s')).setCell ⟨w.heap.size + 1 + 1 + 1, 2, none⟩ (.int .i64 a')) :=
  ⟨(h.2.2.1.set4).off3 (by omega), (h.2.2.2.1.off4 (by omega)).set3, below_set3 (below_set4 h.2.2.2.2.2 (by omega) _ _ _ _) (by omega) _ _ _⟩
theorem coN_lt {l : List ByteArray} {s : ByteArray} {k : Int} {B : ByteArray} (h : (coN l s k B).2 = 0) : (coN l s k B).1 < num B := by
  unfold coN at *
  split
  · rename_i h1
    rw [if_pos h1] at h
    split
    · rename_i h2; rw [if_pos h2] at h; cases h
    · rename_i h2; rw [if_neg h2] at h; exact dwN_ok h
  · rename_i h1; rw [if_neg h1] at h; cases h
theorem mkN_size {M O : ByteArray} (h : nvalid O = true) (hM : M.size ≤ 8) (hc : chkK M O = 0) (vM : nvalid M = true) : O.size ≤ 8 :=
  chk_small (M := M) (O := O) (G := M) (Y := M) (by simp [h, vM]) hM hc
set_option maxRecDepth 100000 in
set_option maxHeartbeats 8000000 in
theorem sc_Make_of (M O G : ByteArray) (l : List ByteArray) (s : ByteArray) (k : Int) (A : Option Addr) (n cap : Nat) (hM : M.size ≤ 8) (hO : O.size ≤ 100) (hG : G.size ≤ 1000) (hn : n ≤ 1000) (hp : ∀ x ∈ l, x.size ≤ 9223372036854775807) (w : World)
    (hd : num O < 18446744073709551616 → ∀ W, Below w.heap.size w W → SlN W A n cap l → Calls Tryz.prog 49 #[tpV A n cap s k, .string (nS (num O - 1))] W (RetC (coN l s k (nS (num O - 1))) (tpN (coN l s k (nS (num O - 1))).2 l s k) W)) (hs : SlN w A n cap l) :
    Calls Tryz.prog 26 #[gV M O, .string G, tpV A n cap s k] w (RetM (mkK M O G (mkN M O G l s k)) (mkN M O G l s k).2.1 (tpN (mkN M O G l s k).2.2 l s k) (mkN M O G l s k).2.2 w) := by
  have hx0 := MB.newM w M O A n cap s k l hs
  obtain ⟨W0, hW0⟩ : ∃ W, (((w.alloc (.cells #[.string M, .string O] 24)).alloc (.cells #[.slice A n cap, .string s, .int .i64 k] 31)).alloc (.cells #[.string ⟨#[]⟩, .string ⟨#[]⟩, .string ⟨#[]⟩, .string ⟨#[]⟩] 46)).alloc (.cells #[.slice none 0 0, .string ⟨#[]⟩, .int .i64 0] 31) = W := ⟨_, rfl⟩
  rw [hW0] at hx0
  have HX0 := Lib.hid hx0
  have HFM := Lib.hid (fun W : World => sc_formed [M, O, G] (some ⟨W.heap.size, 0, none⟩) 3 3 (by omega) (by
    intro z hz
    simp at hz
    rcases hz with h | h | h <;> subst h <;> omega) (W.alloc (.cells #[.string M, .string O, .string G] 22)) (sln_alloc W [M, O, G] 22 (by simp)))
  have HGT := Lib.hid (fun W hs => sc_goodTape l s k A n cap W hs hn hp)
  have HCK := Lib.hid (pw_CheckW M O hM hO)
  have HRN := Lib.hid (show mkN M O G l s k = _ from rfl)
  have hX1 := HX0.out.nextM ((Below.refl _ _).alloc (Nat.le_refl _) (.cells #[.string M, .string O, .string G] 22))
  have HFMM := Lib.hid (HFM.out W0)
  obtain ⟨W1, hW1⟩ : ∃ W, W0.alloc (.cells #[.string M, .string O, .string G] 22) = W := ⟨_, rfl⟩
  rw [hW1] at hX1 HFMM
  have HX1 := Lib.hid hX1
  obtain ⟨g0, g1⟩ := (show _ ∧ _ from ⟨HX0.out.1.c0, HX0.out.1.c1⟩)
  obtain ⟨c0, c1, c2⟩ := HX0.out.2.1.c
  unfold tpV gV at *
  clear hx0 hX1 hs HFM
  cases hv : [M, O, G].all nvalid with
  | false =>
    rw [hv] at HFMM
    rw [show mkN M O G l s k = (0, 0, 3) from by unfold mkN; rw [hv]; rfl]
    clear hv hd hp
    go_enter Tryz.func26, Tryz.ntmps26
    go_wp2_with fail
    try rw [hW0, hW1]
    clear hW0 hW1
    refine HFMM.out.mono ?_
    rintro ev w2 ⟨rfl, rfl⟩
    clear g0 g1 c0 c1 c2
    obtain ⟨k0, k1, k2, k3⟩ := HX1.out.2.2.1.cells
    have kf := HX1.out.2.2.1.free
    obtain ⟨r0, r1, r2⟩ := HX1.out.2.2.2.1.c
    have rf := HX1.out.2.2.2.1.f
    have kf0 := kf 0
    have kf1 := kf 1
    have kf2 := kf 2
    have kf3 := kf 3
    have rf0 := rf 0
    have rf1 := rf 1
    have rf2 := rf 2
    obtain ⟨hq4, hq3, hqb⟩ := HX1.out.stored (.string ⟨#[]⟩) (.string ⟨#[]⟩) (.string ⟨#[]⟩) (.string ⟨#[]⟩) none 0 0 ⟨#[]⟩ 0
    obtain ⟨q0, q1, q2, q3⟩ := hq4.cells
    obtain ⟨p0, p1, p2⟩ := hq3.c
    have HQB := Lib.hid hqb
    clear kf rf hq4 hq3 hqb
    go_wp2
    refine bodyPost_ret (v := .tuple #[.agg #[.string ⟨#[]⟩, .string ⟨#[]⟩, .string ⟨#[]⟩, .string ⟨#[]⟩], .string ⟨#[]⟩, .agg #[.slice none 0 0, .string ⟨#[]⟩, .int .i64 0], .int .i64 3]) (by simp [results, Tryz.results26, go_sem, q0, q1, q2, q3, p0, p1, p2]) rfl ?_
    exact ⟨none, 0, rfl, SlN.nil _ 0 (by omega) none, (fun b o h => by cases h), HQB.out⟩
  | true =>
    rw [hv] at HFMM
    have hv3 : nvalid M = true ∧ nvalid O = true ∧ nvalid G = true := by
      simp only [List.all_cons, List.all_nil, Bool.and_true, Bool.and_eq_true] at hv
      exact ⟨hv.1, hv.2.1, hv.2.2⟩
    have HGTT := Lib.hid (HGT.out W1 HX1.out.2.2.2.2.1)
    cases hg : tpG l k with
    | false =>
      rw [hg] at HGTT
      rw [show mkN M O G l s k = (0, 0, 3) from by unfold mkN; rw [hv, hg]; rfl]
      clear hv hg hd hp
      go_enter Tryz.func26, Tryz.ntmps26
      go_wp2_with fail
      try rw [hW0, hW1]
      clear hW0 hW1
      refine HFMM.out.mono ?_
      rintro ev w2 ⟨rfl, rfl⟩
      clear g0 g1 c0 c1 c2
      obtain ⟨g0, g1⟩ := (show _ ∧ _ from ⟨HX1.out.1.c0, HX1.out.1.c1⟩)
      obtain ⟨c0, c1, c2⟩ := HX1.out.2.1.c
      go_wp2_with fail
      refine HGTT.out.mono ?_
      rintro ev w2 ⟨rfl, hb⟩
      have HX2 := Lib.hid (HX1.out.nextM hb)
      clear hb g0 g1 c0 c1 c2
      obtain ⟨g0, g1⟩ := (show _ ∧ _ from ⟨HX2.out.1.c0, HX2.out.1.c1⟩)
      obtain ⟨c0, c1, c2⟩ := HX2.out.2.1.c
      obtain ⟨k0, k1, k2, k3⟩ := HX2.out.2.2.1.cells
      have kf := HX2.out.2.2.1.free
      obtain ⟨r0, r1, r2⟩ := HX2.out.2.2.2.1.c
      have rf := HX2.out.2.2.2.1.f
      have kf0 := kf 0
      have kf1 := kf 1
      have kf2 := kf 2
      have kf3 := kf 3
      have rf0 := rf 0
      have rf1 := rf 1
      have rf2 := rf 2
      obtain ⟨hq4, hq3, hqb⟩ := HX2.out.stored (.string ⟨#[]⟩) (.string ⟨#[]⟩) (.string ⟨#[]⟩) (.string ⟨#[]⟩) none 0 0 ⟨#[]⟩ 0
      obtain ⟨q0, q1, q2, q3⟩ := hq4.cells
      obtain ⟨p0, p1, p2⟩ := hq3.c
      have HQB := Lib.hid hqb
      clear kf rf hq4 hq3 hqb
      go_wp2
      refine bodyPost_ret (v := .tuple #[.agg #[.string ⟨#[]⟩, .string ⟨#[]⟩, .string ⟨#[]⟩, .string ⟨#[]⟩], .string ⟨#[]⟩, .agg #[.slice none 0 0, .string ⟨#[]⟩, .int .i64 0], .int .i64 3]) (by simp [results, Tryz.results26, go_sem, q0, q1, q2, q3, p0, p1, p2]) rfl ?_
      exact ⟨none, 0, rfl, SlN.nil _ 0 (by omega) none, (fun b o h => by cases h), HQB.out⟩
    | true =>
      rw [hg] at HGTT
      by_cases hc : chkK M O = 0
      · rw [hc] at HCK
        have h8 := mkN_size hv3.2.1 hM hc hv3.1
        have HGN := Lib.hid (sc_generator M O G hM h8 hv3.2.2)
        cases ho : O.toList.isEmpty with
        | true =>
          rw [show mkN M O G l s k = (0, 0, 13) from by unfold mkN; rw [hv, hg, hc, ho]; rfl]
          clear hv hg hd hp hv3
          try unfold gV at *
          go_enter Tryz.func26, Tryz.ntmps26
          go_wp2_with fail
          try rw [hW0, hW1]
          clear hW0 hW1
          refine HFMM.out.mono ?_
          rintro ev w2 ⟨rfl, rfl⟩
          clear g0 g1 c0 c1 c2
          obtain ⟨g0, g1⟩ := (show _ ∧ _ from ⟨HX1.out.1.c0, HX1.out.1.c1⟩)
          obtain ⟨c0, c1, c2⟩ := HX1.out.2.1.c
          go_wp2_with fail
          refine HGTT.out.mono ?_
          rintro ev w2 ⟨rfl, hb⟩
          have HX2 := Lib.hid (HX1.out.nextM hb)
          clear hb g0 g1 c0 c1 c2
          obtain ⟨g0, g1⟩ := (show _ ∧ _ from ⟨HX2.out.1.c0, HX2.out.1.c1⟩)
          obtain ⟨c0, c1, c2⟩ := HX2.out.2.1.c
          go_wp2_with fail
          refine (HCK.out _).mono ?_
          rintro ev w3 ⟨rfl, hb⟩
          have HX3 := Lib.hid (HX2.out.nextM hb)
          clear hb g0 g1 c0 c1 c2
          obtain ⟨g0, g1⟩ := (show _ ∧ _ from ⟨HX3.out.1.c0, HX3.out.1.c1⟩)
          obtain ⟨c0, c1, c2⟩ := HX3.out.2.1.c
          obtain ⟨k0, k1, k2, k3⟩ := HX3.out.2.2.1.cells
          have kf := HX3.out.2.2.1.free
          obtain ⟨r0, r1, r2⟩ := HX3.out.2.2.2.1.c
          have rf := HX3.out.2.2.2.1.f
          have kf0 := kf 0
          have kf1 := kf 1
          have kf2 := kf 2
          have kf3 := kf 3
          have rf0 := rf 0
          have rf1 := rf 1
          have rf2 := rf 2
          obtain ⟨hq4, hq3, hqb⟩ := HX3.out.stored (.string ⟨#[]⟩) (.string ⟨#[]⟩) (.string ⟨#[]⟩) (.string ⟨#[]⟩) none 0 0 ⟨#[]⟩ 0
          obtain ⟨q0, q1, q2, q3⟩ := hq4.cells
          obtain ⟨p0, p1, p2⟩ := hq3.c
          have HQB := Lib.hid hqb
          clear kf rf hq4 hq3 hqb
          go_wp2
          refine bodyPost_ret (v := .tuple #[.agg #[.string ⟨#[]⟩, .string ⟨#[]⟩, .string ⟨#[]⟩, .string ⟨#[]⟩], .string ⟨#[]⟩, .agg #[.slice none 0 0, .string ⟨#[]⟩, .int .i64 0], .int .i64 13]) (by simp [results, Tryz.results26, go_sem, q0, q1, q2, q3, p0, p1, p2]) rfl ?_
          exact ⟨none, 0, rfl, SlN.nil _ 0 (by omega) none, (fun b o h => by cases h), HQB.out⟩
        | false =>
          obtain ⟨gg, hgg⟩ : ∃ b, genK M O G = b := ⟨_, rfl⟩
          rw [hgg] at HGN
          cases gg with
          | false =>
            rw [show mkN M O G l s k = (0, 0, 13) from by unfold mkN; rw [hv, hg, hc, ho, hgg]; rfl]
            clear hv hg hd hp hv3 hgg
            try unfold gV at *
            go_enter Tryz.func26, Tryz.ntmps26
            go_wp2_with fail
            try rw [hW0, hW1]
            clear hW0 hW1
            refine HFMM.out.mono ?_
            rintro ev w2 ⟨rfl, rfl⟩
            clear g0 g1 c0 c1 c2
            obtain ⟨g0, g1⟩ := (show _ ∧ _ from ⟨HX1.out.1.c0, HX1.out.1.c1⟩)
            obtain ⟨c0, c1, c2⟩ := HX1.out.2.1.c
            go_wp2_with fail
            refine HGTT.out.mono ?_
            rintro ev w2 ⟨rfl, hb⟩
            have HX2 := Lib.hid (HX1.out.nextM hb)
            clear hb g0 g1 c0 c1 c2
            obtain ⟨g0, g1⟩ := (show _ ∧ _ from ⟨HX2.out.1.c0, HX2.out.1.c1⟩)
            obtain ⟨c0, c1, c2⟩ := HX2.out.2.1.c
            go_wp2_with fail
            refine (HCK.out _).mono ?_
            rintro ev w3 ⟨rfl, hb⟩
            have HX3 := Lib.hid (HX2.out.nextM hb)
            clear hb g0 g1 c0 c1 c2
            obtain ⟨g0, g1⟩ := (show _ ∧ _ from ⟨HX3.out.1.c0, HX3.out.1.c1⟩)
            obtain ⟨c0, c1, c2⟩ := HX3.out.2.1.c
            go_wp2_with fail
            refine (HGN.out _).mono ?_
            rintro ev w4 ⟨rfl, hb⟩
            have HX4 := Lib.hid (HX3.out.nextM hb)
            clear hb g0 g1 c0 c1 c2
            obtain ⟨g0, g1⟩ := (show _ ∧ _ from ⟨HX4.out.1.c0, HX4.out.1.c1⟩)
            obtain ⟨c0, c1, c2⟩ := HX4.out.2.1.c
            obtain ⟨k0, k1, k2, k3⟩ := HX4.out.2.2.1.cells
            have kf := HX4.out.2.2.1.free
            obtain ⟨r0, r1, r2⟩ := HX4.out.2.2.2.1.c
            have rf := HX4.out.2.2.2.1.f
            have kf0 := kf 0
            have kf1 := kf 1
            have kf2 := kf 2
            have kf3 := kf 3
            have rf0 := rf 0
            have rf1 := rf 1
            have rf2 := rf 2
            obtain ⟨hq4, hq3, hqb⟩ := HX4.out.stored (.string ⟨#[]⟩) (.string ⟨#[]⟩) (.string ⟨#[]⟩) (.string ⟨#[]⟩) none 0 0 ⟨#[]⟩ 0
            obtain ⟨q0, q1, q2, q3⟩ := hq4.cells
            obtain ⟨p0, p1, p2⟩ := hq3.c
            have HQB := Lib.hid hqb
            clear kf rf hq4 hq3 hqb
            go_wp2
            refine bodyPost_ret (v := .tuple #[.agg #[.string ⟨#[]⟩, .string ⟨#[]⟩, .string ⟨#[]⟩, .string ⟨#[]⟩], .string ⟨#[]⟩, .agg #[.slice none 0 0, .string ⟨#[]⟩, .int .i64 0], .int .i64 13]) (by simp [results, Tryz.results26, go_sem, q0, q1, q2, q3, p0, p1, p2]) rfl ?_
            exact ⟨none, 0, rfl, SlN.nil _ 0 (by omega) none, (fun b o h => by cases h), HQB.out⟩
          | true =>
            have lO := num_small h8
            have lO1 : 1 ≤ num O := by
              rcases Nat.eq_zero_or_pos (num O) with h | h
              · rw [nS_num hv3.2.1, h] at ho
                rw [show (nS 0).toList.isEmpty = true from sempty_true rfl] at ho
                cases ho
              · exact h
            have HSB := Lib.hid (nat_Sub_ge (num O) 1 (lt128_of_lt8 lO) (by decide) lO1)
            rw [← nS_num hv3.2.1, nS_one] at HSB
            have HDD := Lib.hid (hd lO)
            obtain ⟨r, hr⟩ : ∃ r, coN l s k (nS (num O - 1)) = r := ⟨_, rfl⟩
            have hlt : r.2 = 0 → r.1 < num O := fun h => by
              rw [← hr] at h ⊢
              have := coN_lt (l := l) (s := s) (k := k) (B := nS (num O - 1)) h
              rw [num_nS] at this
              omega
            have HRV := Lib.hid (show mkN M O G l s k = (if r.2 = 0 then (if num G ^ (r.1 + 1) % num M = 1 then (0, 0, 13) else (num G ^ (r.1 + 1) % num M, r.1 + 1, 0)) else (0, 0, r.2)) from by
              unfold mkN; rw [hv, hg, hc, ho, hgg, hr]; rfl)
            rw [hr] at HDD
            obtain ⟨c, e⟩ := r
            simp only [] at HRV hlt HDD
            obtain ⟨q, hq⟩ : ∃ q, nS (num O - 1) = q := ⟨_, rfl⟩
            rw [hq] at HDD HSB
            obtain ⟨t, ht⟩ : ∃ t, tpN e l s k = t := ⟨_, rfl⟩
            obtain ⟨tl, ts, tk⟩ := t
            rw [ht] at HDD
            by_cases he : e = 0
            · subst he
              have lc := hlt rfl
              have HAD := Lib.hid (nat_Add c 1 (lt128_of_lt8 (by omega)) (by decide))
              rw [fitR, if_pos (lt128_of_lt8 (by omega)), nS_one] at HAD
              have sG : G.size ≤ 1000 := hG
              have lc1 : c + 1 < 256 ^ 128 := lt128_of_lt8 (by omega)
              have HEX := Lib.hid (pw_Exp M O G false (nS (c + 1)) hM h8 hG (by have := nS_size_le.2 lc1; omega))
              rw [ex_nat2 hc hv3.2.2 (genK_parts hgg).1 lc1] at HEX
              simp only [if_true] at HRV
              have hi1 := nS_is1 (num G ^ (c + 1) % num M)
              obtain ⟨y, hy⟩ : ∃ y, num G ^ (c + 1) % num M = y := ⟨_, rfl⟩
              rw [hy] at HRV HEX hi1
              obtain ⟨x, hx⟩ : ∃ x, nS (c + 1) = x := ⟨_, rfl⟩
              obtain ⟨z, hz⟩ : ∃ z, nS y = z := ⟨_, rfl⟩
              obtain ⟨cz, hcz⟩ : ∃ z, nS c = z := ⟨_, rfl⟩
              rw [hx] at HEX HAD
              rw [hz] at HEX hi1
              rw [hcz] at HAD
              have HCZ := Lib.hid hcz
              have HXX := Lib.hid hx
              have HZZ := Lib.hid hz
              by_cases hy1 : y = 1
              · rw [if_pos hy1] at HRV
                rw [HRV.out]
                have hi1' : (z.toList == [1]) = true := by rw [hi1]; exact decide_eq_true hy1
                clear hv hg hd hp hv3 hgg hr hq ht hlt lc sG lc1 hy hx hz hcz hy1 hi1 HRN HRV hc hM hO hG h8 lO lO1
                unfold gV zV at *
                go_enter Tryz.func26, Tryz.ntmps26
                go_wp2_with fail
                try rw [hW0, hW1]
                clear hW0 hW1
                refine HFMM.out.mono ?_
                rintro ev w2 ⟨rfl, rfl⟩
                clear g0 g1 c0 c1 c2
                obtain ⟨g0, g1⟩ := (show _ ∧ _ from ⟨HX1.out.1.c0, HX1.out.1.c1⟩)
                obtain ⟨c0, c1, c2⟩ := HX1.out.2.1.c
                go_wp2_with fail
                refine HGTT.out.mono ?_
                rintro ev w2 ⟨rfl, hb⟩
                have HX2 := Lib.hid (HX1.out.nextM hb)
                clear hb g0 g1 c0 c1 c2
                obtain ⟨g0, g1⟩ := (show _ ∧ _ from ⟨HX2.out.1.c0, HX2.out.1.c1⟩)
                obtain ⟨c0, c1, c2⟩ := HX2.out.2.1.c
                go_wp2_with fail
                refine (HCK.out _).mono ?_
                rintro ev w3 ⟨rfl, hb⟩
                have HX3 := Lib.hid (HX2.out.nextM hb)
                clear hb g0 g1 c0 c1 c2
                obtain ⟨g0, g1⟩ := (show _ ∧ _ from ⟨HX3.out.1.c0, HX3.out.1.c1⟩)
                obtain ⟨c0, c1, c2⟩ := HX3.out.2.1.c
                go_wp2_with fail
                refine (HGN.out _).mono ?_
                rintro ev w4 ⟨rfl, hb⟩
                have HX4 := Lib.hid (HX3.out.nextM hb)
                clear hb g0 g1 c0 c1 c2
                obtain ⟨g0, g1⟩ := (show _ ∧ _ from ⟨HX4.out.1.c0, HX4.out.1.c1⟩)
                obtain ⟨c0, c1, c2⟩ := HX4.out.2.1.c
                go_wp2_with fail
                refine (HSB.out _).mono ?_
                rintro ev w5 ⟨rfl, hb⟩
                have HX5 := Lib.hid (HX4.out.nextM hb)
                clear hb g0 g1 c0 c1 c2
                obtain ⟨g0, g1⟩ := (show _ ∧ _ from ⟨HX5.out.1.c0, HX5.out.1.c1⟩)
                obtain ⟨c0, c1, c2⟩ := HX5.out.2.1.c
                go_wp2_with fail
                have HDW := Lib.hid (HDD.out w5 HX5.out.2.2.2.2.2 HX5.out.2.2.2.2.1)
                refine HDW.out.mono ?_
                rintro ev w6 ⟨B, cc, rfl, hsl, hfr, hb⟩
                have HSL := Lib.hid hsl
                have HFR := Lib.hid (show ∀ b o, B = some ⟨b, o, none⟩ → w.heap.size + 1 + 1 + 1 < b from fun b o h => Nat.lt_of_lt_of_le HX5.out.2.2.2.1.lt (hfr b o h))
                clear hsl hfr
                have HX6 := Lib.hid (HX5.out.nextM hb)
                clear hb g0 g1 c0 c1 c2
                obtain ⟨g0, g1⟩ := (show _ ∧ _ from ⟨HX6.out.1.c0, HX6.out.1.c1⟩)
                obtain ⟨c0, c1, c2⟩ := HX6.out.2.1.c
                simp only []
                obtain ⟨m, hm⟩ : ∃ m, tl.length = m := ⟨_, rfl⟩
                have HMM := Lib.hid hm
                rw [hm]
                clear hm
                have HLT6 := Lib.hid (show w.heap.size + 1 + 1 + 1 < w6.heap.size from HX6.out.2.2.2.1.lt)
                clear g0 g1 c0 c1 c2
                go_upto_region 10 with (fail)
                obtain ⟨g0, g1⟩ := (show _ ∧ _ from ⟨HX6.out.1.c0, HX6.out.1.c1⟩)
                obtain ⟨c0, c1, c2⟩ := HX6.out.2.1.c
                have hb : Below w6.heap.size w6 (w6.alloc (.cells #[.slice B m cc, .string ts, .int .i64 tk] 31)) := (Below.refl _ _).alloc (Nat.le_refl _) _
                have hp7 := TB.new w6 B m cc ts tk
                obtain ⟨W7, hW7⟩ : ∃ W, w6.alloc (.cells #[.slice B m cc, .string ts, .int .i64 tk] 31) = W := ⟨_, rfl⟩
                obtain ⟨P7, hP7⟩ : ∃ P, w6.heap.size = P := ⟨_, rfl⟩
                rw [hW7] at hb hp7 ⊢
                rw [hP7] at hp7 HLT6 ⊢
                have HP7 := Lib.hid hp7
                have HB67 := Lib.hid hb
                clear hp7 hW7 hP7
                have HX7 := Lib.hid (HX6.out.nextM hb)
                clear hb g0 g1 c0 c1 c2
                obtain ⟨g0, g1⟩ := (show _ ∧ _ from ⟨HX7.out.1.c0, HX7.out.1.c1⟩)
                obtain ⟨c0, c1, c2⟩ := HX7.out.2.1.c
                rw [HCZ.out]
                go_wp2_with fail
                refine (HAD.out _).mono ?_
                rintro ev w8 ⟨rfl, hb⟩
                have HP8 := Lib.hid (HP7.out.nextT hb)
                have HB8 := Lib.hid hb
                have HX8 := Lib.hid (HX7.out.nextM hb)
                clear hb g0 g1 c0 c1 c2
                obtain ⟨g0, g1⟩ := (show _ ∧ _ from ⟨HX8.out.1.c0, HX8.out.1.c1⟩)
                obtain ⟨c0, c1, c2⟩ := HX8.out.2.1.c
                go_wp2_with fail
                refine (HEX.out _).mono ?_
                rintro ev w9 ⟨rfl, hb⟩
                have HP9 := Lib.hid (HP8.out.nextT hb)
                have HB9 := Lib.hid hb
                have HX9 := Lib.hid (HX8.out.nextM hb)
                clear hb g0 g1 c0 c1 c2
                obtain ⟨g0, g1⟩ := (show _ ∧ _ from ⟨HX9.out.1.c0, HX9.out.1.c1⟩)
                obtain ⟨c0, c1, c2⟩ := HX9.out.2.1.c
                obtain ⟨k0, k1, k2, k3⟩ := HX9.out.2.2.1.cells
                have kf := HX9.out.2.2.1.free
                obtain ⟨r0, r1, r2⟩ := HX9.out.2.2.2.1.c
                have rf := HX9.out.2.2.2.1.f
                have kf0 := kf 0
                have kf1 := kf 1
                have kf2 := kf 2
                have kf3 := kf 3
                have rf0 := rf 0
                have rf1 := rf 1
                have rf2 := rf 2
                obtain ⟨hq4, hq3, hqb⟩ := HX9.out.stored (.string ⟨#[]⟩) (.string ⟨#[]⟩) (.string ⟨#[]⟩) (.string ⟨#[]⟩) none 0 0 ⟨#[]⟩ 0
                obtain ⟨q0, q1, q2, q3⟩ := hq4.cells
                obtain ⟨p0, p1, p2⟩ := hq3.c
                have HQB := Lib.hid hqb
                clear kf rf hq4 hq3 hqb
                go_wp2
                refine bodyPost_ret (v := .tuple #[.agg #[.string ⟨#[]⟩, .string ⟨#[]⟩, .string ⟨#[]⟩, .string ⟨#[]⟩], .string ⟨#[]⟩, .agg #[.slice none 0 0, .string ⟨#[]⟩, .int .i64 0], .int .i64 13]) (by simp [results, Tryz.results26, go_sem, q0, q1, q2, q3, p0, p1, p2]) rfl ?_
                exact ⟨none, 0, rfl, SlN.nil _ 0 (by omega) none, (fun b o h => by cases h), HQB.out⟩
              · rw [if_neg hy1] at HRV
                rw [HRV.out]
                have hi1' : (z.toList == [1]) = false := by rw [hi1]; exact decide_eq_false hy1
                have HTT := Lib.hid ht
                clear hv hg hd hp hv3 hgg hr hq ht hlt lc sG lc1 hy hx hz hcz hy1 hi1 HRN HRV hc hM hO hG h8 lO lO1
                unfold gV zV at *
                go_enter Tryz.func26, Tryz.ntmps26
                go_wp2_with fail
                try rw [hW0, hW1]
                clear hW0 hW1
                refine HFMM.out.mono ?_
                rintro ev w2 ⟨rfl, rfl⟩
                clear g0 g1 c0 c1 c2
                obtain ⟨g0, g1⟩ := (show _ ∧ _ from ⟨HX1.out.1.c0, HX1.out.1.c1⟩)
                obtain ⟨c0, c1, c2⟩ := HX1.out.2.1.c
                go_wp2_with fail
                refine HGTT.out.mono ?_
                rintro ev w2 ⟨rfl, hb⟩
                have HX2 := Lib.hid (HX1.out.nextM hb)
                clear hb g0 g1 c0 c1 c2
                obtain ⟨g0, g1⟩ := (show _ ∧ _ from ⟨HX2.out.1.c0, HX2.out.1.c1⟩)
                obtain ⟨c0, c1, c2⟩ := HX2.out.2.1.c
                go_wp2_with fail
                refine (HCK.out _).mono ?_
                rintro ev w3 ⟨rfl, hb⟩
                have HX3 := Lib.hid (HX2.out.nextM hb)
                clear hb g0 g1 c0 c1 c2
                obtain ⟨g0, g1⟩ := (show _ ∧ _ from ⟨HX3.out.1.c0, HX3.out.1.c1⟩)
                obtain ⟨c0, c1, c2⟩ := HX3.out.2.1.c
                go_wp2_with fail
                refine (HGN.out _).mono ?_
                rintro ev w4 ⟨rfl, hb⟩
                have HX4 := Lib.hid (HX3.out.nextM hb)
                clear hb g0 g1 c0 c1 c2
                obtain ⟨g0, g1⟩ := (show _ ∧ _ from ⟨HX4.out.1.c0, HX4.out.1.c1⟩)
                obtain ⟨c0, c1, c2⟩ := HX4.out.2.1.c
                go_wp2_with fail
                refine (HSB.out _).mono ?_
                rintro ev w5 ⟨rfl, hb⟩
                have HX5 := Lib.hid (HX4.out.nextM hb)
                clear hb g0 g1 c0 c1 c2
                obtain ⟨g0, g1⟩ := (show _ ∧ _ from ⟨HX5.out.1.c0, HX5.out.1.c1⟩)
                obtain ⟨c0, c1, c2⟩ := HX5.out.2.1.c
                go_wp2_with fail
                have HDW := Lib.hid (HDD.out w5 HX5.out.2.2.2.2.2 HX5.out.2.2.2.2.1)
                refine HDW.out.mono ?_
                rintro ev w6 ⟨B, cc, rfl, hsl, hfr, hb⟩
                have HSL := Lib.hid hsl
                have HFR := Lib.hid (show ∀ b o, B = some ⟨b, o, none⟩ → w.heap.size + 1 + 1 + 1 < b from fun b o h => Nat.lt_of_lt_of_le HX5.out.2.2.2.1.lt (hfr b o h))
                clear hsl hfr
                have HX6 := Lib.hid (HX5.out.nextM hb)
                clear hb g0 g1 c0 c1 c2
                obtain ⟨g0, g1⟩ := (show _ ∧ _ from ⟨HX6.out.1.c0, HX6.out.1.c1⟩)
                obtain ⟨c0, c1, c2⟩ := HX6.out.2.1.c
                simp only []
                obtain ⟨m, hm⟩ : ∃ m, tl.length = m := ⟨_, rfl⟩
                have HMM := Lib.hid hm
                rw [hm]
                clear hm
                have HLT6 := Lib.hid (show w.heap.size + 1 + 1 + 1 < w6.heap.size from HX6.out.2.2.2.1.lt)
                clear g0 g1 c0 c1 c2
                go_upto_region 10 with (fail)
                obtain ⟨g0, g1⟩ := (show _ ∧ _ from ⟨HX6.out.1.c0, HX6.out.1.c1⟩)
                obtain ⟨c0, c1, c2⟩ := HX6.out.2.1.c
                have hb : Below w6.heap.size w6 (w6.alloc (.cells #[.slice B m cc, .string ts, .int .i64 tk] 31)) := (Below.refl _ _).alloc (Nat.le_refl _) _
                have hp7 := TB.new w6 B m cc ts tk
                obtain ⟨W7, hW7⟩ : ∃ W, w6.alloc (.cells #[.slice B m cc, .string ts, .int .i64 tk] 31) = W := ⟨_, rfl⟩
                obtain ⟨P7, hP7⟩ : ∃ P, w6.heap.size = P := ⟨_, rfl⟩
                rw [hW7] at hb hp7 ⊢
                rw [hP7] at hp7 HLT6 ⊢
                have HP7 := Lib.hid hp7
                have HB67 := Lib.hid hb
                clear hp7 hW7 hP7
                have HX7 := Lib.hid (HX6.out.nextM hb)
                clear hb g0 g1 c0 c1 c2
                obtain ⟨g0, g1⟩ := (show _ ∧ _ from ⟨HX7.out.1.c0, HX7.out.1.c1⟩)
                obtain ⟨c0, c1, c2⟩ := HX7.out.2.1.c
                rw [HCZ.out]
                go_wp2_with fail
                refine (HAD.out _).mono ?_
                rintro ev w8 ⟨rfl, hb⟩
                have HP8 := Lib.hid (HP7.out.nextT hb)
                have HB8 := Lib.hid hb
                have HX8 := Lib.hid (HX7.out.nextM hb)
                clear hb g0 g1 c0 c1 c2
                obtain ⟨g0, g1⟩ := (show _ ∧ _ from ⟨HX8.out.1.c0, HX8.out.1.c1⟩)
                obtain ⟨c0, c1, c2⟩ := HX8.out.2.1.c
                go_wp2_with fail
                refine (HEX.out _).mono ?_
                rintro ev w9 ⟨rfl, hb⟩
                have HP9 := Lib.hid (HP8.out.nextT hb)
                have HB9 := Lib.hid hb
                have HX9 := Lib.hid (HX8.out.nextM hb)
                clear hb g0 g1 c0 c1 c2
                obtain ⟨g0, g1⟩ := (show _ ∧ _ from ⟨HX9.out.1.c0, HX9.out.1.c1⟩)
                obtain ⟨c0, c1, c2⟩ := HX9.out.2.1.c
                go_wp2
                obtain ⟨wd, hwd⟩ : ∃ wd, w9.drew = wd := ⟨_, rfl⟩
                have hbd : Below w9.heap.size w9 wd := by rw [← hwd]; exact (Below.refl _ _).drew
                have HXD := Lib.hid (HX9.out.nextM hbd)
                have HS0 := Lib.hid (show Below w.heap.size w wd ∧ Bx2 wd w.heap.size (.string M) (.string O) 24 ∧ TB wd P7 B m cc ts tk from ⟨(HX9.out.nextM hbd).2.2.2.2.2, (HX9.out.nextM hbd).1, HP9.out.nextT hbd⟩)
                have HSL9 := Lib.hid (HSL.out.kept (show Below w6.heap.size w6 wd from ((HB67.out.trans (HB8.out.mono HB67.out.size)).trans (HB9.out.mono (Nat.le_trans HB67.out.size HB8.out.size))).trans (hbd.mono (Nat.le_trans HB67.out.size (Nat.le_trans HB8.out.size HB9.out.size)))) (Nat.le_refl _))
                clear hbd g0 g1 c0 c1 c2
                obtain ⟨k0, k1, k2, k3⟩ := HXD.out.2.2.1.cells
                have kf := HXD.out.2.2.1.free
                obtain ⟨r0, r1, r2⟩ := HXD.out.2.2.2.1.c
                have rf := HXD.out.2.2.2.1.f
                have kf0 := kf 0
                have kf1 := kf 1
                have kf2 := kf 2
                have kf3 := kf 3
                have rf0 := rf 0
                have rf1 := rf 1
                have rf2 := rf 2
                clear kf rf
                refine wp_region_K 10 (fun W' => Below w.heap.size w W' ∧ Bx2 W' w.heap.size (.string M) (.string O) 24 ∧ TB W' P7 B m cc ts tk) (by kernel_rfl) ?_
                intro hD
                rw [hwd]
                have KK1 := Lib.hid (fun w' (hS' : (fun W' => Below w.heap.size w W' ∧ Bx2 W' w.heap.size (.string M) (.string O) 24 ∧ TB W' P7 B m cc ts tk) w') => And.intro (hS'.2.1.c0) (And.intro (hS'.2.1.c1) (And.intro (hS'.2.2.c.1) (And.intro (hS'.2.2.c.2.1) (hS'.2.2.c.2.2)))))
                refine rT 0 88 9 rfl hD HS0.out (by intro w' hS'; obtain ⟨e0, e1, e2, e3, e4⟩ := KK1.out w' hS'; go_simp; with_reducible rfl) ?_; clear hD; intro hD; simp only [Act.put, sqA, sqB, sqC]
                refine rP 1 89 8 rfl hD HS0.out ?_; clear hD; intro hD; simp only [Act.put, sqA, sqB, sqC]
                refine rP 2 90 7 rfl hD HS0.out ?_; clear hD; intro hD; simp only [Act.put, sqA, sqB, sqC]
                refine rP 3 91 6 rfl hD HS0.out ?_; clear hD; intro hD; simp only [Act.put, sqA, sqB, sqC]
                refine rP 4 92 5 rfl hD HS0.out ?_; clear hD; intro hD; simp only [Act.put, sqA, sqB, sqC]
                refine rT 5 93 4 rfl hD HS0.out (by intro w' hS'; obtain ⟨e0, e1, e2, e3, e4⟩ := KK1.out w' hS'; go_simp; with_reducible rfl) ?_; clear hD; intro hD; simp only [Act.put, sqA, sqB, sqC]
                refine rO 6 3 rfl hD ?_; clear hD; intro K6 hK6
                go_wp2
                refine hK6 _ _ (by exact ⟨below_set4 (HS0.out).1 (by omega) _ _ _ _, bx2_off4 (HS0.out).2.1 (by omega), (HS0.out).2.2.off4 (by have := HLT6.out; omega)⟩) ?_; clear hK6; intro hS_16_6 hD
                refine rO 7 2 rfl hD ?_; clear hD; intro K7 hK7
                go_wp2
                refine hK7 _ _ (by exact hS_16_6) ?_; clear hK7; intro hS_16_7 hD
                refine rO 8 1 rfl hD ?_; clear hD; intro K8 hK8
                go_wp2
                refine hK8 _ _ (by exact ⟨below_set3 (hS_16_7).1 (by omega) _ _ _, bx2_off3 (hS_16_7).2.1 (by omega), (((hS_16_7).2.2.off (by have := HLT6.out; omega) _).off (by have := HLT6.out; omega) _).off (by have := HLT6.out; omega) _⟩) ?_; clear hK8; intro hS_16_8 hD
                refine rO 9 0 rfl hD ?_; clear hD; intro K9 hK9
                go_wp2
                refine hK9 _ _ (by exact hS_16_8) ?_; clear hK9; intro hS_16_9 hD
                refine wpAnyK_done (by kernel_rfl) ?_ 0
                clear hD k0 k1 k2 k3 kf0 kf1 kf2 kf3 r0 r1 r2 rf0 rf1 rf2
                obtain ⟨hq4, hq3, hqb⟩ := HXD.out.stored (.string M) (.string O) (.string G) (.string z) B m cc ts tk
                obtain ⟨q0, q1, q2, q3⟩ := hq4.cells
                obtain ⟨p0, p1, p2⟩ := hq3.c
                have HQB := Lib.hid hqb
                clear hq4 hq3 hqb
                go_wp2
                refine bodyPost_ret (v := .tuple #[.agg #[.string M, .string O, .string G, .string z], .string x, .agg #[.slice B m cc, .string ts, .int .i64 tk], .int .i64 0]) (by simp [results, Tryz.results26, go_sem, q0, q1, q2, q3, p0, p1, p2]) rfl ?_
                rw [HTT.out]
                refine ⟨B, cc, ?_, ?_, (fun b o h => by have := HFR.out b o h; omega), HQB.out⟩
                · show _ = Ending.returned (.tuple #[.agg #[.string M, .string O, .string G, .string (nS y)], .string (nS (c + 1)), .agg #[.slice B tl.length cc, .string ts, .int .i64 tk], .int .i64 0])
                  rw [HMM.out, HZZ.out, HXX.out]
                · show SlN _ B tl.length cc tl
                  have h1 : ∀ b o, B = some ⟨b, o, none⟩ → w.heap.size + 1 + 1 < b := fun b o h => by have := HFR.out b o h; omega
                  have h2 : ∀ b o, B = some ⟨b, o, none⟩ → w.heap.size + 1 + 1 + 1 < b := fun b o h => HFR.out b o h
                  exact ((((((HSL9.out.setB h1).setB h1).setB h1).setB h1).setB h2).setB h2).setB h2
            · rw [if_neg he] at HRV
              rw [HRV.out]
              rw [show tpN e l s k = ([], ⟨#[]⟩, 0) from tpN_err he l s k, show mkK M O G (0, 0, e) = #[.string ⟨#[]⟩, .string ⟨#[]⟩, .string ⟨#[]⟩, .string ⟨#[]⟩] from if_neg he]
              have HNE := Lib.hid he
              clear hv hg hd hp hv3 hgg hr hq ht hlt HRN HRV hc hM hO hG h8 lO lO1 he
              try unfold gV at *
              go_enter Tryz.func26, Tryz.ntmps26
              go_wp2_with fail
              try rw [hW0, hW1]
              clear hW0 hW1
              refine HFMM.out.mono ?_
              rintro ev w2 ⟨rfl, rfl⟩
              clear g0 g1 c0 c1 c2
              obtain ⟨g0, g1⟩ := (show _ ∧ _ from ⟨HX1.out.1.c0, HX1.out.1.c1⟩)
              obtain ⟨c0, c1, c2⟩ := HX1.out.2.1.c
              go_wp2_with fail
              refine HGTT.out.mono ?_
              rintro ev w2 ⟨rfl, hb⟩
              have HX2 := Lib.hid (HX1.out.nextM hb)
              clear hb g0 g1 c0 c1 c2
              obtain ⟨g0, g1⟩ := (show _ ∧ _ from ⟨HX2.out.1.c0, HX2.out.1.c1⟩)
              obtain ⟨c0, c1, c2⟩ := HX2.out.2.1.c
              go_wp2_with fail
              refine (HCK.out _).mono ?_
              rintro ev w3 ⟨rfl, hb⟩
              have HX3 := Lib.hid (HX2.out.nextM hb)
              clear hb g0 g1 c0 c1 c2
              obtain ⟨g0, g1⟩ := (show _ ∧ _ from ⟨HX3.out.1.c0, HX3.out.1.c1⟩)
              obtain ⟨c0, c1, c2⟩ := HX3.out.2.1.c
              go_wp2_with fail
              refine (HGN.out _).mono ?_
              rintro ev w4 ⟨rfl, hb⟩
              have HX4 := Lib.hid (HX3.out.nextM hb)
              clear hb g0 g1 c0 c1 c2
              obtain ⟨g0, g1⟩ := (show _ ∧ _ from ⟨HX4.out.1.c0, HX4.out.1.c1⟩)
              obtain ⟨c0, c1, c2⟩ := HX4.out.2.1.c
              go_wp2_with fail
              refine (HSB.out _).mono ?_
              rintro ev w5 ⟨rfl, hb⟩
              have HX5 := Lib.hid (HX4.out.nextM hb)
              clear hb g0 g1 c0 c1 c2
              obtain ⟨g0, g1⟩ := (show _ ∧ _ from ⟨HX5.out.1.c0, HX5.out.1.c1⟩)
              obtain ⟨c0, c1, c2⟩ := HX5.out.2.1.c
              go_wp2_with fail
              have HDW := Lib.hid (HDD.out w5 HX5.out.2.2.2.2.2 HX5.out.2.2.2.2.1)
              refine HDW.out.mono ?_
              rintro ev w6 ⟨B, cc, rfl, hsl, hfr, hb⟩
              have HSL := Lib.hid hsl
              have HFR := Lib.hid (show ∀ b o, B = some ⟨b, o, none⟩ → w.heap.size + 1 + 1 + 1 < b from fun b o h => Nat.lt_of_lt_of_le HX5.out.2.2.2.1.lt (hfr b o h))
              clear hsl hfr
              have HX6 := Lib.hid (HX5.out.nextM hb)
              clear hb g0 g1 c0 c1 c2
              obtain ⟨g0, g1⟩ := (show _ ∧ _ from ⟨HX6.out.1.c0, HX6.out.1.c1⟩)
              obtain ⟨c0, c1, c2⟩ := HX6.out.2.1.c
              simp only []
              obtain ⟨m, hm⟩ : ∃ m, tl.length = m := ⟨_, rfl⟩
              have HMM := Lib.hid hm
              rw [hm]
              clear hm
              have HLT6 := Lib.hid (show w.heap.size + 1 + 1 + 1 < w6.heap.size from HX6.out.2.2.2.1.lt)
              clear g0 g1 c0 c1 c2
              go_upto_region 10 with (fail)
              obtain ⟨g0, g1⟩ := (show _ ∧ _ from ⟨HX6.out.1.c0, HX6.out.1.c1⟩)
              obtain ⟨c0, c1, c2⟩ := HX6.out.2.1.c
              have hb : Below w6.heap.size w6 (w6.alloc (.cells #[.slice B m cc, .string ts, .int .i64 tk] 31)) := (Below.refl _ _).alloc (Nat.le_refl _) _
              have hp7 := TB.new w6 B m cc ts tk
              obtain ⟨W7, hW7⟩ : ∃ W, w6.alloc (.cells #[.slice B m cc, .string ts, .int .i64 tk] 31) = W := ⟨_, rfl⟩
              obtain ⟨P7, hP7⟩ : ∃ P, w6.heap.size = P := ⟨_, rfl⟩
              rw [hW7] at hb hp7 ⊢
              rw [hP7] at hp7 HLT6 ⊢
              have HP7 := Lib.hid hp7
              have HB67 := Lib.hid hb
              clear hp7 hW7 hP7
              have HX7 := Lib.hid (HX6.out.nextM hb)
              clear hb g0 g1 c0 c1 c2
              obtain ⟨g0, g1⟩ := (show _ ∧ _ from ⟨HX7.out.1.c0, HX7.out.1.c1⟩)
              obtain ⟨c0, c1, c2⟩ := HX7.out.2.1.c
              obtain ⟨cz, hcz⟩ : ∃ z, nS c = z := ⟨_, rfl⟩
              rw [hcz]
              clear hcz
              have he := HNE.out
              go_upto_region 11 with (fail)
              clear he
              obtain ⟨k0, k1, k2, k3⟩ := HX7.out.2.2.1.cells
              have kf := HX7.out.2.2.1.free
              obtain ⟨r0, r1, r2⟩ := HX7.out.2.2.2.1.c
              have rf := HX7.out.2.2.2.1.f
              have kf0 := kf 0
              have kf1 := kf 1
              have kf2 := kf 2
              have kf3 := kf 3
              have rf0 := rf 0
              have rf1 := rf 1
              have rf2 := rf 2
              obtain ⟨hq4, hq3, hqb⟩ := HX7.out.stored (.string ⟨#[]⟩) (.string ⟨#[]⟩) (.string ⟨#[]⟩) (.string ⟨#[]⟩) none 0 0 ⟨#[]⟩ 0
              obtain ⟨q0, q1, q2, q3⟩ := hq4.cells
              obtain ⟨p0, p1, p2⟩ := hq3.c
              have HQB := Lib.hid hqb
              clear kf rf hq4 hq3 hqb
              go_wp2
              refine bodyPost_ret (v := .tuple #[.agg #[.string ⟨#[]⟩, .string ⟨#[]⟩, .string ⟨#[]⟩, .string ⟨#[]⟩], .string ⟨#[]⟩, .agg #[.slice none 0 0, .string ⟨#[]⟩, .int .i64 0], .int .i64 e]) (by simp [results, Tryz.results26, go_sem, q0, q1, q2, q3, p0, p1, p2]) rfl ?_
              exact ⟨none, 0, rfl, SlN.nil _ 0 (by omega) none, (fun b o h => by cases h), HQB.out⟩
      · rw [show mkN M O G l s k = (0, 0, chkK M O) from by unfold mkN; rw [hv, hg, if_pos (by rfl), if_neg hc]]
        obtain ⟨e, he⟩ : ∃ e, chkK M O = e := ⟨_, rfl⟩
        rw [he] at HCK hc ⊢
        rw [show tpN e l s k = ([], ⟨#[]⟩, 0) from tpN_err hc l s k, show mkK M O G (0, 0, e) = #[.string ⟨#[]⟩, .string ⟨#[]⟩, .string ⟨#[]⟩, .string ⟨#[]⟩] from if_neg hc]
        clear hv hg hd hp hv3 he
        try unfold gV at *
        go_enter Tryz.func26, Tryz.ntmps26
        go_wp2_with fail
        try rw [hW0, hW1]
        clear hW0 hW1
        refine HFMM.out.mono ?_
        rintro ev w2 ⟨rfl, rfl⟩
        clear g0 g1 c0 c1 c2
        obtain ⟨g0, g1⟩ := (show _ ∧ _ from ⟨HX1.out.1.c0, HX1.out.1.c1⟩)
        obtain ⟨c0, c1, c2⟩ := HX1.out.2.1.c
        go_wp2_with fail
        refine HGTT.out.mono ?_
        rintro ev w2 ⟨rfl, hb⟩
        have HX2 := Lib.hid (HX1.out.nextM hb)
        clear hb g0 g1 c0 c1 c2
        obtain ⟨g0, g1⟩ := (show _ ∧ _ from ⟨HX2.out.1.c0, HX2.out.1.c1⟩)
        obtain ⟨c0, c1, c2⟩ := HX2.out.2.1.c
        go_wp2_with fail
        refine (HCK.out _).mono ?_
        rintro ev w3 ⟨rfl, hb⟩
        have HX3 := Lib.hid (HX2.out.nextM hb)
        clear hb g0 g1 c0 c1 c2
        obtain ⟨g0, g1⟩ := (show _ ∧ _ from ⟨HX3.out.1.c0, HX3.out.1.c1⟩)
        obtain ⟨c0, c1, c2⟩ := HX3.out.2.1.c
        go_upto_region 5 with (fail)
        clear hc
        obtain ⟨k0, k1, k2, k3⟩ := HX3.out.2.2.1.cells
        have kf := HX3.out.2.2.1.free
        obtain ⟨r0, r1, r2⟩ := HX3.out.2.2.2.1.c
        have rf := HX3.out.2.2.2.1.f
        have kf0 := kf 0
        have kf1 := kf 1
        have kf2 := kf 2
        have kf3 := kf 3
        have rf0 := rf 0
        have rf1 := rf 1
        have rf2 := rf 2
        obtain ⟨hq4, hq3, hqb⟩ := HX3.out.stored (.string ⟨#[]⟩) (.string ⟨#[]⟩) (.string ⟨#[]⟩) (.string ⟨#[]⟩) none 0 0 ⟨#[]⟩ 0
        obtain ⟨q0, q1, q2, q3⟩ := hq4.cells
        obtain ⟨p0, p1, p2⟩ := hq3.c
        have HQB := Lib.hid hqb
        clear kf rf hq4 hq3 hqb
        go_wp2
        refine bodyPost_ret (v := .tuple #[.agg #[.string ⟨#[]⟩, .string ⟨#[]⟩, .string ⟨#[]⟩, .string ⟨#[]⟩], .string ⟨#[]⟩, .agg #[.slice none 0 0, .string ⟨#[]⟩, .int .i64 0], .int .i64 e]) (by simp [results, Tryz.results26, go_sem, q0, q1, q2, q3, p0, p1, p2]) rfl ?_
        exact ⟨none, 0, rfl, SlN.nil _ 0 (by omega) none, (fun b o h => by cases h), HQB.out⟩
end Go.Proofs.YtndmjfkmnjejkaaGreatDoor

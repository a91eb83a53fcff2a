import Derived.Test.YtndmjfkmnjejkaaGreatDoorQPeO
import Derived.Test.YtndmjfkmnjejkaaGreatDoorQPeDB
import Derived.Test.YtndmjfkmnjejkaaGreatDoorQPeT
import Derived.Test.YtndmjfkmnjejkaaGreatDoorQOpU
import Derived.Test.YtndmjfkmnjejkaaGreatDoorQGsa
import Derived.Laws.CopyOwn
set_option linter.unusedVariables false
set_option linter.unusedSimpArgs false
namespace Go.Proofs.YtndmjfkmnjejkaaGreatDoor
open Go.RowKit
theorem slz_alloc1 (w : World) (b1 : Bool) (s1 : ByteArray) (T : TypeId) : SlZ (w.alloc (.cells #[.bool b1, .string s1] T)) (some ⟨w.heap.size, 0, none⟩) 1 1 [(b1, s1)] := by
 have h := Bx2.new w (.bool b1) (.string s1) T
 refine ⟨rfl, Nat.le_refl _, by omega, w.heap.size, 0, fun _ => rfl, fun k z hk => ?_⟩
 match k, hk with
 | 0, hk => cases hk; exact ⟨h.c0, h.c1⟩
end Go.Proofs.YtndmjfkmnjejkaaGreatDoor
namespace Go.Proofs.YtndmjfkmnjejkaaGreatDoor
def pz (m x : Nat) (z : Int) : Nat := baseN x (decide (z < 0)) m ^ z.natAbs % m
def cmN (m g h : Nat) (v r : Int) : Nat := pz m g v * pz m h r % m
theorem kF_parts2 {M O G H : ByteArray} (h : kF M O G H = true) : nvalid M = true ∧ nvalid O = true ∧ nvalid G = true ∧ nvalid H = true := kF_parts' h
theorem pkC_parts2 {M O G H : ByteArray} (h : pkC M O G H = 0) : chkK M O = 0 ∧ hasN (num M) (num O) (num G) = true ∧ hasN (num M) (num O) (num H) = true := by
 have hk := pkC_kF h
 unfold pkC at h
 rw [if_neg (by rw [hk]; decide)] at h
 split at h
 · rename_i h2
   split at h
   · exact absurd h (by decide)
   · rename_i h3
     rw [Bool.not_eq_true] at h3
     simp only [Bool.or_eq_false_iff, Bool.not_eq_false'] at h3
     have a1 := h3.1.1.1.1
     have a2 := h3.1.1.1.2
     unfold hasK at a1 a2
     simp only [Bool.and_eq_true] at a1 a2
     exact ⟨h2, a1.2, a2.2⟩
 · rename_i h2
   exact absurd h h2
theorem cka_two {M O a b : ByteArray} {z1 z2 : Bool × ByteArray} (h1 : nvalid a = true) (h2 : nvalid b = true) (h3 : zvalid z1.1 z1.2 = true) (h4 : zvalid z2.1 z2.2 = true) (h5 : chkK M O = 0) (h6 : hasN (num M) (num O) (num a) = true) (h7 : hasN (num M) (num O) (num b) = true) : ckR M O [a, b] [z1, z2] true = 0 := by
 unfold ckR
 rw [if_neg (by simp [h1, h2]), if_neg (by simp [h3, h4]), if_pos h5, if_neg (by decide), if_neg (by simp [h6, h7])]
theorem pz_two (m x y : Nat) (v r : Int) : baseN x (decide (v < 0)) m ^ v.natAbs * baseN y (decide (r < 0)) m ^ r.natAbs % m = pz m x v * pz m y r % m := by
 unfold pz
 rw [← Nat.mul_mod]
theorem cm_int {M O G H : ByteArray} (hc : pkC M O G H = 0) {v r : Int} (hv : v.natAbs < 256 ^ 128) (hr : r.natAbs < 256 ^ 128) : cmR M O G H (decide (v < 0)) (nS v.natAbs) (decide (r < 0)) (nS r.natAbs) = .tuple #[.string (nS (cmN (num M) (num G) (num H) v r)), .int .i64 0] := by
 obtain ⟨h1, h2, h3⟩ := pkC_parts2 hc
 obtain ⟨v1, v2, v3, v4⟩ := kF_parts2 (pkC_kF hc)
 unfold cmR
 rw [pkC_kF hc, zvalid_all hv, zvalid_all hr, if_neg (by decide), if_pos hc]
 unfold prR
 rw [if_pos (show ckR M O [G, H] [(decide (v < 0), nS v.natAbs), (decide (r < 0), nS r.natAbs)] (decide ([G, H].length = [(decide (v < 0), nS v.natAbs), (decide (r < 0), nS r.natAbs)].length)) = 0 from cka_two v3 v4 (zvalid_all hv) (zvalid_all hr) h1 h2 h3)]
 have e : prV (num M) [G, H] [(decide (v < 0), nS v.natAbs), (decide (r < 0), nS r.natAbs)] = cmN (num M) (num G) (num H) v r := by
  show baseN (num G) (decide (v < 0)) (num M) ^ (num (nS v.natAbs) / 2 ^ 0) * (baseN (num H) (decide (r < 0)) (num M) ^ (num (nS r.natAbs) / 2 ^ 0) * 1) % num M = _
  rw [num_nS, num_nS, Nat.pow_zero, Nat.div_one, Nat.div_one, Nat.mul_one, pz_two]
  rfl
 rw [e]
end Go.Proofs.YtndmjfkmnjejkaaGreatDoor
namespace Go.Proofs.YtndmjfkmnjejkaaGreatDoor
open Go.RowKit Go.Lib
theorem nall_false {l : List ByteArray} {k : Nat} {s : ByteArray} (h : l[k]? = some s) (hv : nvalid s = false) : ¬ (l.all nvalid = true) := fun hall => by
 have := List.all_eq_true.1 hall s (List.mem_of_getElem? h)
 rw [hv] at this; cases this
theorem nall_true {l : List ByteArray} (h : ∀ k, k < l.length → ∃ s, l[k]? = some s ∧ nvalid s = true) : l.all nvalid = true := by
 rw [List.all_eq_true]
 intro s hs
 obtain ⟨k, hk⟩ := List.mem_iff_getElem?.1 hs
 obtain ⟨s', h1, h2⟩ := h k (List.getElem?_eq_some_iff.1 hk).1
 rw [hk] at h1
 cases h1
 exact h2
end Go.Proofs.YtndmjfkmnjejkaaGreatDoor
namespace Go.Proofs.YtndmjfkmnjejkaaGreatDoor
set_option maxRecDepth 100000
set_option maxHeartbeats 4000000
open Go.RowKit
theorem cmpI_ltP {x y : Nat} : (cmpI x y < 0) = (x < y) := by
 unfold cmpI; split
 · simp_all
 · split <;> simp_all
theorem size_validC {s : ByteArray} (h : nvalid s = true) : s.size ≤ 128 := by
 unfold nvalid at h; rw [Bool.and_eq_true] at h; exact of_decide_eq_true h.1
theorem join2 {K : Act → World → Prop} {Fc : Nat → Nat → World → Prop} {G : Prop} (F : Nat → Nat → Act) (hm : (∀ b c w, Fc b c w → K (F b c) w) → G) (hr : ∀ b c w, Fc b c w → K (F b c) w) : G := hm hr
theorem TB.set3 {W : World} {B : Nat} {A A' : Option Addr} {n c n' c' : Nat} {s s' : ByteArray} {a a' : Int} (h : TB W B A n c s a) :
 TB (((W.setCell ⟨B, 0, none⟩ (.slice A' n' c')).setCell ⟨B, 1, none⟩ (.string s')).setCell ⟨B, 2, none⟩ (.int .i64 a')) B A' n' c' s' a' :=
 block_setCell (block_setCell (block_setCell h _) _) _
theorem TB.off {W : World} {B C k : Nat} {A : Option Addr} {n c : Nat} {s : ByteArray} {a : Int} (h : TB W B A n c s a) (hne : B ≠ C) (u : Value) : TB (W.setCell ⟨C, k, none⟩ u) B A n c s a := (heap_setCell_other _ _ _ _ hne).trans h
theorem below_set3 {B : Nat} {w W : World} (h : Below B w W) {C : Nat} (hC : B ≤ C) (u v x : Value) : Below B w (((W.setCell ⟨C, 0, none⟩ u).setCell ⟨C, 1, none⟩ v).setCell ⟨C, 2, none⟩ x) :=
 ((h.setCell (p := ⟨C, 0, none⟩) hC _).setCell (p := ⟨C, 1, none⟩) hC _).setCell (p := ⟨C, 2, none⟩) hC _
theorem make_nats (n : Nat) (hn : n ≤ 1000000) (w : World) : (Instr.makeSlice 29 (.int .i64 n) (.int .i64 n)).run Tryz.prog w = .ok (.slice (some ⟨w.heap.size, 0, none⟩) n n) (w.alloc (.cells (madeCells #[.string ⟨#[]⟩] n) 22)) := by
 obtain ⟨i0, hi, hz0, hz1, hz2⟩ := info_parts nat_info
 have h := run_make (P := Tryz.prog) w 29 22 i0 (.string ⟨#[]⟩) Tryz.underlying29 hi hz0 .i64 .i64 (n : Int) (n : Int) (by omega) (by omega) (by rw [hz2]; omega) (by omega)
 rw [h, hz1, Int.toNat_natCast, Nat.mul_one]
 rfl
theorem sln_heap {w : World} {B : Nat} {l : List ByteArray} {T : TypeId} {fr : Nat × Nat} (h : w.heap[B]? = some (.cells (l.map Value.string).toArray T fr)) (hl : l.length ≤ 9223372036854775807) : SlN w (some ⟨B, 0, none⟩) l.length l.length l := by
 refine ⟨rfl, Nat.le_refl _, hl, B, 0, fun _ => rfl, fun k s hk => ?_⟩
 rw [Nat.zero_add, Lib.cell_of_heap h]
 simp [hk]
def NT (V : World) (n : Nat) (s : ByteArray) (k : Int) (b c : Nat) (W : World) : Prop :=
 TB W b (some ⟨c, 0, none⟩) n n s k ∧ W.heap[c]? = some (.cells (madeCells #[.string ⟨#[]⟩] n) 22 (0, 0)) ∧ Below V.heap.size V W ∧ V.heap.size ≤ b ∧ V.heap.size ≤ c ∧ b ≠ c
theorem NT.a (V : World) (n : Nat) (s : ByteArray) (k : Int) : NT V n s k (V.heap.size + 1) V.heap.size ((V.alloc (.cells (madeCells #[.string ⟨#[]⟩] n) 22)).alloc (.cells #[.slice (some ⟨V.heap.size, 0, none⟩) n n, .string s, .int .i64 k] 31)) := by
 refine ⟨?_, ?_, ((Below.refl _ _).alloc (Nat.le_refl _) _).alloc (by simp) _, by omega, Nat.le_refl _, by omega⟩
 · have := TB.new (V.alloc (.cells (madeCells #[.string ⟨#[]⟩] n) 22)) (some ⟨V.heap.size, 0, none⟩) n n s k
   rwa [World.size_alloc] at this
 · exact (Below.heap_alloc _ _ _ (by simp)).trans (heap_alloc_new _ _)
theorem NT.b (V : World) (n : Nat) (s : ByteArray) (k : Int) : NT V n s k V.heap.size (V.heap.size + 1) ((V.alloc (.cells #[.slice (some ⟨V.heap.size + 1, 0, none⟩) n n, .string s, .int .i64 k] 31)).alloc (.cells (madeCells #[.string ⟨#[]⟩] n) 22)) := by
 refine ⟨?_, ?_, ((Below.refl _ _).alloc (Nat.le_refl _) _).alloc (by simp) _, Nat.le_refl _, by omega, by omega⟩
 · exact (TB.new V (some ⟨V.heap.size + 1, 0, none⟩) n n s k).nextT ((Below.refl _ _).alloc (Nat.le_refl _) _)
 · have := heap_alloc_new (V.alloc (.cells #[.slice (some ⟨V.heap.size + 1, 0, none⟩) n n, .string s, .int .i64 k] 31)) (.cells (madeCells #[.string ⟨#[]⟩] n) 22)
   rwa [World.size_alloc] at this
theorem wpList_copy_nats {w : World} {ops : Array Oper} {rest : List Oper} {o : Oper} {a : Act} {Q : Exit → Act → World → Prop} (hgd : o.guard = none) (d s : Operand)
 (ho : o.op = .call { callee := .builtin .copy, args := #[d, s], argTypes := #[29, 29] }) (g n cap : Nat) (A : Option Addr) (l : List ByteArray)
 (hd : a.eval d = .slice (some ⟨g, 0, none⟩) n n) (hs : a.eval s = .slice A n cap) (hg : w.heap[g]? = some (.cells (madeCells #[.string ⟨#[]⟩] n) 22 (0, 0))) (hl : SlN w A n cap l) (B : Nat) (w0 : World) (hb : Below B w0 w) (hBg : B ≤ g)
 (h : ∀ w', w'.heap[g]? = some (.cells (l.map Value.string).toArray 22 (0, 0)) → (∀ j, j ≠ g → w'.heap[j]? = w.heap[j]?) → Below B w0 w' → wpList Tryz.prog ops Q rest (a.put o.dst (goInt n)) w') : wpList Tryz.prog ops Q (o :: rest) a w := by
 have hll := hl.1
 obtain ⟨i0, hi, hz0, hz1, hz2⟩ := info_parts nat_info
 by_cases h0 : n = 0
 · subst h0
   refine wpList_copy_nothing hgd d s 29 29 ho 22 Tryz.underlying29 (by rw [hi]; simp [hz1]) _ _ _ _ _ _ hd hs rfl ?_
   obtain rfl := List.eq_nil_of_length_eq_zero hll
   exact h w (hg.trans (congrArg (fun c => some (Obj.cells c 22 (0, 0))) (show madeCells #[.string ⟨#[]⟩] 0 = #[] from by kernel_rfl))) (fun _ _ => rfl) hb
 · obtain ⟨b, o', rfl⟩ := hl.head (by omega)
   have := wpList_copy_own (ops := ops) (rest := rest) (Q := Q) (w := w) hgd d s 29 29 ho 22 Tryz.underlying29 (by rw [hi]; simp [hz1]) g 0 n n ⟨b, o', none⟩ n cap hd hs _ _ hg (l.map Value.string) (by simp [hll]) hl.cells (by simp [hll, size_madeCells]) (fun v hv => by obtain ⟨x, _, rfl⟩ := List.mem_map.1 hv; rfl)
   refine this ?_
   rw [List.length_map, hll]
   refine h _ ?_ (fun j hj => setRow_other _ _ _ _ hj) (below_setRow hb hBg _)
   rw [setRow_heap _ _ _ _ _ _ hg]
   refine congrArg (fun c => some (Obj.cells c 22 (0, 0))) (congrArg List.toArray ?_)
   rw [List.take_zero, List.nil_append, List.drop_eq_nil_of_le (by simp [hll, size_madeCells]), List.append_nil]
theorem co_drawV (l : List ByteArray) (s : ByteArray) (k N : Nat) (A : Option Addr) (n cap : Nat) (y : ByteArray) (hy : l[k]? = some y) (hk : k < n) (hn : n ≤ 1000) (vy : nvalid y = true) (hN : N < 256 ^ 128) (w : World) (hs : SlN w A n cap l) :
 Calls Tryz.prog 97 #[tpV A n cap s k, .string (nS N)] w (RetC (if num y < N then (num y, 0) else (0, 2)) (tpN (if num y < N then (num y, 0) else (0, 2)).2 l s k) w) := by
 obtain ⟨b, o, rfl⟩ := hs.head (by omega)
 have ly := num_lt (size_validC vy)
 have HCM := Hq (nat_Cmp (nS (num y)) (nS N) (by have := nS_size_le.2 ly; omega) (by have := nS_size_le.2 hN; omega))
 rw [ncmp_n ly hN, ← nS_num vy] at HCM
 have hcm := cmpI_ltP (x := num y) (y := N)
 obtain ⟨k1, hk1⟩ : ∃ k, cmpI (num y) N = k := ⟨_, rfl⟩
 rw [hk1] at HCM hcm
 have HLEN := Hq hs.1
 have hcap := hs.2.1
 have hcap2 := hs.2.2.1
 have hki : (k : Int) < (n : Int) := by omega
 obtain ⟨A, hA⟩ : ∃ A, some (⟨b, o, none⟩ : Addr) = A := ⟨_, rfl⟩
 have hs' := hs
 rw [hA] at hs
 have hb1 := ((Below.refl w.heap.size w).alloc (Nat.le_refl _) (.cells #[.slice A n cap, .string s, .int .i64 k] 31)).alloc (by simp) (.cells #[.slice none 0 0, .string ⟨#[]⟩, .int .i64 0] 31)
 have ht1 : TB ((w.alloc (.cells #[.slice A n cap, .string s, .int .i64 k] 31)).alloc (.cells #[.slice none 0 0, .string ⟨#[]⟩, .int .i64 0] 31)) w.heap.size A n cap s k := (TB.new w A n cap s k).nextT ((Below.refl _ _).alloc (Nat.le_refl _) _)
 have hr1 : TB ((w.alloc (.cells #[.slice A n cap, .string s, .int .i64 k] 31)).alloc (.cells #[.slice none 0 0, .string ⟨#[]⟩, .int .i64 0] 31)) (w.heap.size + 1) none 0 0 ⟨#[]⟩ 0 := by
  have := TB.new (w.alloc (.cells #[.slice A n cap, .string s, .int .i64 k] 31)) none 0 0 ⟨#[]⟩ 0
  rwa [World.size_alloc] at this
 obtain ⟨W1, hW1⟩ : ∃ W, (w.alloc (.cells #[.slice A n cap, .string s, .int .i64 k] 31)).alloc (.cells #[.slice none 0 0, .string ⟨#[]⟩, .int .i64 0] 31) = W := ⟨_, rfl⟩
 have HSZ := Hq (show W1.heap.size = w.heap.size + 1 + 1 from by rw [← hW1]; simp)
 rw [hW1] at hb1 ht1 hr1
 have HB1 := Hq hb1
 have HT1 := Hq ht1
 have HR1 := Hq hr1
 have hs1 := hs.kept hb1 (Nat.le_refl _)
 have HS0 := Hq hs
 have HS1 := Hq hs1
 obtain ⟨c0, c1, c2⟩ := ht1.c
 obtain ⟨r0, r1, r2⟩ := hr1.c
 have f0 := hr1.f 0
 have f1 := hr1.f 1
 have f2 := hr1.f 2
 subst hA
 have d0 := HS1.out.get? k hy
 have HY := Hq hy
 obtain ⟨M, hM⟩ : ∃ M, nS N = M := ⟨_, rfl⟩
 rw [hM] at HCM ⊢
 unfold tpV
 by_cases hlt : num y < N
 · have hge : ¬ (0 ≤ k1) := by have : k1 < 0 := by rw [hcm]; exact hlt
                               omega
   have HNY := Hq (nS_num vy)
   have hkk : ¬ ((k : Int) = 2147483647) := by omega
   rw [if_pos hlt]
   have HK := Hq hk
   have HN1 := Hq hn
   clear hlt hy hs hs' hb1 ht1 hr1 hs1 hcm hk1 vy ly hN hM hk
   go_enter Tryz.func97, Tryz.ntmps97
   go_wp2_with fail
   try rw [hW1]
   clear hW1
   refine (HCM.out _).mono ?_
   rintro ev w2 ⟨rfl, rfl⟩
   go_wp2
   rename_i K5 hK5
   refine wp_onlyN ?_
   obtain ⟨wd, hwd⟩ : ∃ wd, W1.drew = wd := ⟨_, rfl⟩
   have hbd : Below W1.heap.size W1 wd := by rw [← hwd]; exact (Below.refl _ _).drew
   have HTD := Hq (HT1.out.nextT hbd)
   have HRD := Hq (HR1.out.nextT hbd)
   have HBD := Hq (HB1.out.trans (hbd.mono HB1.out.size))
   have HSZD := Hq (show w.heap.size + 1 < wd.heap.size from by have := hbd.size; have := HSZ.out; omega)
   clear hbd c0 c1 c2 r0 r1 r2 f0 f1 f2 d0
   obtain ⟨c0, c1, c2⟩ := HTD.out.c
   have hmk := fun W => make_nats n (by have := HN1.out; omega) W
   have hk1 : (k : Int) ≤ 1000 := by have := HK.out; have := HN1.out; omega
   apply join2 (K := K5) (Fc := NT wd n s ((k : Int) + 1))
   · intro HJ
     have HJ := Hq HJ
     refine wp_region_K 12 (Below (wd).heap.size (wd)) (by kernel_rfl) ?_
     intro hD
     rw [hwd]
     refine rP 0 45 11 rfl hD (Below.refl _ _) ?_; clear hD; intro hD; simp only [Act.put, sqA, sqB, sqC]
     refine rT 1 46 10 rfl hD (Below.refl _ _) (by intro w' hS'; have e0 := kC hS' c0; have e1 := kC hS' c1; have e2 := kC hS' c2; go_simp; with_reducible rfl) ?_; clear hD; intro hD; simp only [Act.put, sqA, sqB, sqC]
     refine rP 2 47 9 rfl hD (Below.refl _ _) ?_; clear hD; intro hD; simp only [Act.put, sqA, sqB, sqC]
     refine rP 4 49 8 rfl hD (Below.refl _ _) ?_; clear hD; intro hD; simp only [Act.put, sqA, sqB, sqC]
     refine rT 5 50 7 rfl hD (Below.refl _ _) (by intro w' hS'; have e0 := kC hS' c0; have e1 := kC hS' c1; have e2 := kC hS' c2; go_simp; with_reducible rfl) ?_; clear hD; intro hD; simp only [Act.put, sqA, sqB, sqC]
     refine rP 6 51 6 rfl hD (Below.refl _ _) ?_; clear hD; intro hD; simp only [Act.put, sqA, sqB, sqC]
     refine rT 7 52 5 rfl hD (Below.refl _ _) (by intro w' hS'; have e0 := kC hS' c0; have e1 := kC hS' c1; have e2 := kC hS' c2; go_simp; with_reducible rfl) ?_; clear hD; intro hD; simp only [Act.put, sqA, sqB, sqC]
     refine rP 8 53 4 rfl hD (Below.refl _ _) ?_; clear hD; intro hD; simp only [Act.put, sqA, sqB, sqC]
     refine wpAnyK_two (i := 3) (i' := 10) (fuel := 3) (by kernel_rfl) rfl rfl hD ?_ ?_ 
     · unfold StepK
       clear hD; intro K3 hK3
       go_wp2
       refine hK3 _ _ (by exact (Below.refl _ _).alloc (Nat.le_refl _) _) ?_; clear hK3; intro hS_5_3 hD
       refine rP 9 54 2 rfl hD hS_5_3 ?_; clear hD; intro hD; simp only [Act.put, sqA, sqB, sqC]
       refine rO 10 1 rfl hD ?_; clear hD; intro K10 hK10
       go_wp2
       refine hK10 _ _ (by exact Below.alloc hS_5_3 (Below.size hS_5_3) _) ?_; clear hK10; intro hS_5_10_3 hD
       refine rO 11 0 rfl hD ?_; clear hD; intro K11 hK11
       go_wp2
       refine hK11 _ _ (by exact ((Below.refl _ _).alloc (Nat.le_refl _) _).alloc (by simp) _) ?_; clear hK11; intro hS_5_11_3 hD
       refine wpAnyK_done (by kernel_rfl) ?_ 0
       clear hD
       show K5 _ _
       first
       | (have hF := NT.a wd n s ((k : Int) + 1)
          obtain ⟨wz, hwz⟩ : ∃ W, (wd.alloc (.cells (madeCells #[.string ⟨#[]⟩] n) 22)).alloc (.cells #[.slice (some ⟨wd.heap.size, 0, none⟩) n n, .string s, .int .i64 ((k : Int) + 1)] 31) = W := ⟨_, rfl⟩
          rw [hwz] at hF ⊢
          clear hwz
          obtain ⟨p, hp⟩ : ∃ p, wd.heap.size + 1 = p := ⟨_, rfl⟩
          rw [hp] at hF ⊢
          obtain ⟨q, hq⟩ : ∃ q, wd.heap.size = q := ⟨_, rfl⟩
          rw [hq] at hF ⊢
          exact HJ.out p q _ hF)
       | (have hF := NT.b wd n s ((k : Int) + 1)
          obtain ⟨wz, hwz⟩ : ∃ W, (wd.alloc (.cells #[.slice (some ⟨wd.heap.size + 1, 0, none⟩) n n, .string s, .int .i64 ((k : Int) + 1)] 31)).alloc (.cells (madeCells #[.string ⟨#[]⟩] n) 22) = W := ⟨_, rfl⟩
          rw [hwz] at hF ⊢
          clear hwz
          obtain ⟨p, hp⟩ : ∃ p, wd.heap.size + 1 = p := ⟨_, rfl⟩
          rw [hp] at hF ⊢
          obtain ⟨q, hq⟩ : ∃ q, wd.heap.size = q := ⟨_, rfl⟩
          rw [hq] at hF ⊢
          exact HJ.out q p _ hF)
     · unfold StepK
       clear hD; intro K10 hK10
       go_wp2
       refine hK10 _ _ (by exact (Below.refl _ _).alloc (Nat.le_refl _) _) ?_; clear hK10; intro hS_5_10 hD
       refine rO 3 2 rfl hD ?_; clear hD; intro K3 hK3
       go_wp2
       refine hK3 _ _ (by exact Below.alloc hS_5_10 (Below.size hS_5_10) _) ?_; clear hK3; intro hS_5_3_10 hD
       refine rP 9 54 1 rfl hD hS_5_3_10 ?_; clear hD; intro hD; simp only [Act.put, sqA, sqB, sqC]
       refine rO 11 0 rfl hD ?_; clear hD; intro K11 hK11
       go_wp2
       refine hK11 _ _ (by exact ((Below.refl _ _).alloc (Nat.le_refl _) _).alloc (by simp) _) ?_; clear hK11; intro hS_5_11_10 hD
       refine wpAnyK_done (by kernel_rfl) ?_ 0
       clear hD
       show K5 _ _
       first
       | (have hF := NT.a wd n s ((k : Int) + 1)
          obtain ⟨wz, hwz⟩ : ∃ W, (wd.alloc (.cells (madeCells #[.string ⟨#[]⟩] n) 22)).alloc (.cells #[.slice (some ⟨wd.heap.size, 0, none⟩) n n, .string s, .int .i64 ((k : Int) + 1)] 31) = W := ⟨_, rfl⟩
          rw [hwz] at hF ⊢
          clear hwz
          obtain ⟨p, hp⟩ : ∃ p, wd.heap.size + 1 = p := ⟨_, rfl⟩
          rw [hp] at hF ⊢
          obtain ⟨q, hq⟩ : ∃ q, wd.heap.size = q := ⟨_, rfl⟩
          rw [hq] at hF ⊢
          exact HJ.out p q _ hF)
       | (have hF := NT.b wd n s ((k : Int) + 1)
          obtain ⟨wz, hwz⟩ : ∃ W, (wd.alloc (.cells #[.slice (some ⟨wd.heap.size + 1, 0, none⟩) n n, .string s, .int .i64 ((k : Int) + 1)] 31)).alloc (.cells (madeCells #[.string ⟨#[]⟩] n) 22) = W := ⟨_, rfl⟩
          rw [hwz] at hF ⊢
          clear hwz
          obtain ⟨p, hp⟩ : ∃ p, wd.heap.size + 1 = p := ⟨_, rfl⟩
          rw [hp] at hF ⊢
          obtain ⟨q, hq⟩ : ∃ q, wd.heap.size = q := ⟨_, rfl⟩
          rw [hq] at hF ⊢
          exact HJ.out q p _ hF)
   · intro b7 c7 wz hz
     obtain ⟨ht7, hc7, hbz, hb7, hc7', hne⟩ := hz
     refine hK5 _ _ ?_
     clear hK5 hmk c0 c1 c2
     have HTZ := Hq (HTD.out.nextT hbz)
     have HRZ := Hq (HRD.out.nextT hbz)
     have HBZ := Hq (HBD.out.trans (hbz.mono HBD.out.size))
     have HSL := Hq (HS0.out.kept HBZ.out (Nat.le_refl _))
     have H7 := Hq ht7
     have HC7 := Hq hc7
     have HX := Hq (show w.heap.size + 1 < b7 ∧ w.heap.size + 1 < c7 ∧ b7 ≠ c7 from by have := HSZD.out; omega)
     obtain ⟨c0, c1, c2⟩ := HTZ.out.c
     obtain ⟨p0, p1, p2⟩ := ht7.c
     clear ht7 hc7 hbz hb7 hc7' hne
     go_wp2_with (refine wpList_copy_nats rfl (.tmp 56) (.tmp 58) rfl c7 n cap _ l rfl rfl HC7.out HSL.out w.heap.size w HBZ.out (by have := HX.out; omega) ?_)
     intro w3 hc3 ho3 hb3
     have ht3 : TB w3 w.heap.size (some ⟨b, o, none⟩) n cap s k := (ho3 _ (by have := HX.out; omega)).trans HTZ.out
     have hr3 : TB w3 (w.heap.size + 1) none 0 0 ⟨#[]⟩ 0 := (ho3 _ (by have := HX.out; omega)).trans HRZ.out
     have h73 : TB w3 b7 (some ⟨c7, 0, none⟩) n n s ((k : Int) + 1) := (ho3 _ (by have := HX.out; omega)).trans H7.out
     have hs3 : SlN w3 (some ⟨c7, 0, none⟩) n n l := by
      have := sln_heap hc3 (by have := HLEN.out; omega)
      rwa [HLEN.out] at this
     have HT3 := Hq ht3
     have HR3 := Hq hr3
     have H73 := Hq h73
     have HS3 := Hq hs3
     have HB3 := Hq hb3
     have HC3 := Hq hc3
     clear c0 c1 c2 p0 p1 p2 hc3 ho3 hb3 ht3 hr3 h73 hs3
     obtain ⟨c0, c1, c2⟩ := HT3.out.c
     go_wp2
     obtain ⟨we, hwe⟩ : ∃ we, w3.drew = we := ⟨_, rfl⟩
     have hbe : Below w3.heap.size w3 we := by rw [← hwe]; exact (Below.refl _ _).drew
     have HCE := Hq ((hbe.block c7 (block_lt HC3.out)).trans HC3.out)
     have HS0E := Hq (show Below w.heap.size w we ∧ TB we w.heap.size (some ⟨b, o, none⟩) n cap s k ∧ TB we b7 (some ⟨c7, 0, none⟩) n n s ((k : Int) + 1) from ⟨HB3.out.trans (hbe.mono HB3.out.size), HT3.out.nextT hbe, H73.out.nextT hbe⟩)
     have HRE := Hq (HR3.out.nextT hbe)
     clear hbe c0 c1 c2
     obtain ⟨r0, r1, r2⟩ := HRE.out.c
     have f0 := HRE.out.f 0
     have f1 := HRE.out.f 1
     have f2 := HRE.out.f 2
     refine wp_region_K 10 (fun W' => Below w.heap.size w W' ∧ TB W' w.heap.size (some ⟨b, o, none⟩) n cap s k ∧ TB W' b7 (some ⟨c7, 0, none⟩) n n s ((k : Int) + 1)) (by kernel_rfl) ?_
     intro hD
     rw [hwe]
     have KK2 := Hq (fun w' (hS' : (fun W' => Below w.heap.size w W' ∧ TB W' w.heap.size (some ⟨b, o, none⟩) n cap s k ∧ TB W' b7 (some ⟨c7, 0, none⟩) n n s ((k : Int) + 1)) w') => And.intro (hS'.2.1.c.1) (And.intro (hS'.2.1.c.2.1) (And.intro (hS'.2.1.c.2.2) (And.intro ((HS0.out.kept hS'.1 (Nat.le_refl _)).get? k HY.out) (And.intro (hS'.2.2.c.1) (And.intro (hS'.2.2.c.2.1) (hS'.2.2.c.2.2)))))))
     refine rP 0 66 9 rfl hD HS0E.out ?_; clear hD; intro hD; simp only [Act.put, sqA, sqB, sqC]
     refine rT 1 67 8 rfl hD HS0E.out (by intro w' hS'; obtain ⟨e0, e1, e2, e3, e4, e5, e6⟩ := KK2.out w' hS'; go_simp; with_reducible rfl) ?_; clear hD; intro hD; simp only [Act.put, sqA, sqB, sqC]
     refine rP 2 68 7 rfl hD HS0E.out ?_; clear hD; intro hD; simp only [Act.put, sqA, sqB, sqC]
     refine rT 3 69 6 rfl hD HS0E.out (by intro w' hS'; obtain ⟨e0, e1, e2, e3, e4, e5, e6⟩ := KK2.out w' hS'; go_simp; with_reducible rfl) ?_; clear hD; intro hD; simp only [Act.put, sqA, sqB, sqC]
     refine rP 4 70 5 rfl hD HS0E.out ?_; clear hD; intro hD; simp only [Act.put, sqA, sqB, sqC]
     refine rT 5 71 4 rfl hD HS0E.out (by intro w' hS'; obtain ⟨e0, e1, e2, e3, e4, e5, e6⟩ := KK2.out w' hS'; go_simp; with_reducible rfl) ?_; clear hD; intro hD; simp only [Act.put, sqA, sqB, sqC]
     refine rT 6 72 3 rfl hD HS0E.out (by intro w' hS'; obtain ⟨e0, e1, e2, e3, e4, e5, e6⟩ := KK2.out w' hS'; go_simp; with_reducible rfl) ?_; clear hD; intro hD; simp only [Act.put, sqA, sqB, sqC]
     refine rO 7 2 rfl hD ?_; clear hD; intro K7 hK7
     go_wp2
     refine hK7 _ _ (by exact HS0E.out) ?_; clear hK7; intro hS_8_7 hD
     refine rO 8 1 rfl hD ?_; clear hD; intro K8 hK8
     go_wp2
     refine hK8 _ _ (by exact ⟨below_set3 (hS_8_7).1 (by omega) _ _ _, (((hS_8_7).2.1.off (by omega) _).off (by omega) _).off (by omega) _, (((hS_8_7).2.2.off (by have := HX.out; omega) _).off (by have := HX.out; omega) _).off (by have := HX.out; omega) _⟩) ?_; clear hK8; intro hS_8_8 hD
     refine rO 9 0 rfl hD ?_; clear hD; intro K9 hK9
     go_wp2
     refine hK9 _ _ (by exact hS_8_8) ?_; clear hK9; intro hS_8_9 hD
     refine wpAnyK_done (by kernel_rfl) ?_ 0
     clear hD r0 r1 r2 f0 f1 f2
     have hq := HRE.out.set3 (A' := some (⟨c7, 0, none⟩ : Addr)) (n' := n) (c' := n) (s' := s) (a' := (k : Int) + 1)
     obtain ⟨q0, q1, q2⟩ := hq.c
     have HBQ := Hq (hS_8_9).1
     go_wp2
     refine bodyPost_ret (v := .tuple #[.string y, .agg #[.slice (some ⟨c7, 0, none⟩) n n, .string s, .int .i64 ((k : Int) + 1)], .int .i64 0]) (by simp [results, Tryz.results97, go_sem, q0, q1, q2]) rfl ?_
     refine ⟨some ⟨c7, 0, none⟩, n, ?_, ?_, (fun b o h => by cases h; have := HX.out; omega), HBQ.out⟩
     · show _ = Ending.returned (.tuple #[.string (nS (num y)), .agg #[.slice (some ⟨c7, 0, none⟩) l.length n, .string s, .int .i64 ((k : Int) + 1)], .int .i64 0])
       rw [HLEN.out, ← HNY.out]
     · show SlN _ _ l.length n l
       have hne : c7 ≠ w.heap.size + 1 := by have := HX.out; omega
       have hc8 : (((we.setCell ⟨w.heap.size + 1, 0, none⟩ (.slice (some ⟨c7, 0, none⟩) n n)).setCell ⟨w.heap.size + 1, 1, none⟩ (.string s)).setCell ⟨w.heap.size + 1, 2, none⟩ (.int .i64 ((k : Int) + 1))).heap[c7]? = some (.cells (l.map Value.string).toArray 22 (0, 0)) :=
        (heap_setCell_other _ _ _ _ hne).trans ((heap_setCell_other _ _ _ _ hne).trans ((heap_setCell_other _ _ _ _ hne).trans HCE.out))
       have := sln_heap hc8 (by have := HLEN.out; omega)
       rwa [HLEN.out] at this ⊢
 · have hge : 0 ≤ k1 := by have : ¬ (k1 < 0) := by rw [hcm]; exact hlt
                           omega
   rw [if_neg hlt]
   clear hlt hy hs hs' hb1 ht1 hs1 hcm hk1 vy ly hN hM hk
   go_enter Tryz.func97, Tryz.ntmps97
   go_wp2_with fail
   try rw [hW1]
   clear hW1
   refine (HCM.out _).mono ?_
   rintro ev w2 ⟨rfl, rfl⟩
   have hq := hr1.set3 (A' := none) (n' := 0) (c' := 0) (s' := ⟨#[]⟩) (a' := 0)
   obtain ⟨q0, q1, q2⟩ := hq.c
   have HBQ := Hq (below_set3 HB1.out (C := w.heap.size + 1) (by omega) (.slice none 0 0) (.string ⟨#[]⟩) (.int .i64 0))
   clear hr1 hq
   go_wp2
   refine bodyPost_ret (v := .tuple #[.string ⟨#[]⟩, .agg #[.slice none 0 0, .string ⟨#[]⟩, .int .i64 0], .int .i64 2]) (by simp [results, Tryz.results97, go_sem, q0, q1, q2]) rfl ?_
   exact ⟨none, 0, rfl, SlN.nil _ 0 (by omega) none, (fun b o h => by cases h), HBQ.out⟩
end Go.Proofs.YtndmjfkmnjejkaaGreatDoor

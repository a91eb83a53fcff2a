/- Walks: epochlog.form, dominoref37.Form. -/
import Derived.Test.YtelhpdlegjgjjaaEpD
set_option linter.unusedVariables false
set_option linter.unusedSimpArgs false
namespace Go.Proofs.Ytelhpdlegjgjjaa
open Go.RowKit

/-- Block B holds the cells. -/
def BxC (W : World) (B : Nat) (cs : Array Value) (T : TypeId) : Prop := W.heap[B]? = some (.cells cs T (0, 0))
theorem BxC.new (W : World) (cs : Array Value) (T : TypeId) : BxC (W.alloc (.cells cs T)) W.heap.size cs T := heap_alloc_new _ _
theorem BxC.kept {W W' : World} {K B : Nat} {cs : Array Value} {T : TypeId} (h : BxC W B cs T) (hb : Below K W W') (hB : B < K) : BxC W' B cs T := (hb.block B hB).trans h
theorem BxC.lt {W : World} {B : Nat} {cs : Array Value} {T : TypeId} (h : BxC W B cs T) : B < W.heap.size := block_lt h
theorem BxC.next {W W' : World} {B : Nat} {cs : Array Value} {T : TypeId} (h : BxC W B cs T) (hb : Below W.heap.size W W') : BxC W' B cs T := h.kept hb h.lt
theorem BxC.cell {W : World} {B : Nat} {cs : Array Value} {T : TypeId} (h : BxC W B cs T) (k : Nat) : W.cell? ⟨B, k, none⟩ = cs[k]? := by
  rw [Lib.cell_of_heap h]
theorem BxC.free {W : World} {B : Nat} {cs : Array Value} {T : TypeId} (h : BxC W B cs T) (k : Nat) : W.frozen? ⟨B, k, none⟩ = false := Lib.frozen_of_heap h k
theorem BxC.set {W : World} {B k : Nat} {cs : Array Value} {T : TypeId} (h : BxC W B cs T) (u : Value) : BxC (W.setCell ⟨B, k, none⟩ u) B (cs.setIfInBounds k u) T := block_setCell h u
theorem BxC.other {W : World} {B C k : Nat} {cs : Array Value} {T : TypeId} (h : BxC W B cs T) (hne : B ≠ C) (u : Value) : BxC (W.setCell ⟨C, k, none⟩ u) B cs T := (heap_setCell_other _ _ _ _ hne).trans h
theorem BxC.alloc {W : World} {B : Nat} {cs : Array Value} {T : TypeId} (h : BxC W B cs T) (o : Obj) : BxC (W.alloc o) B cs T := h.kept ((Below.refl _ _).alloc (Nat.le_refl _) o) h.lt
theorem BxC.new1 (W : World) (cs : Array Value) (T : TypeId) (o : Obj) : BxC ((W.alloc o).alloc (.cells cs T)) (W.heap.size + 1) cs T := by
  have := BxC.new (W.alloc o) cs T
  rwa [World.size_alloc] at this
/-- A delta. -/
structure Dl where
  fr : Int
  to : Int
  ad : List ByteArray
  rm : List ByteArray
  be : ByteArray
  af : ByteArray
  sc : ByteArray
  sr : ByteArray
/-- Its cells. -/
def Dl.arr (d : Dl) (a r : Value) : Array Value := #[.int .i64 d.fr, .int .i64 d.to, a, r, .string d.be, .string d.af, .string d.sc, .string d.sr]
/-- Its numbers are canonical. -/
def Dl.okN (d : Dl) : Bool := (d.ad ++ d.rm ++ [d.be, d.af]).all nvalid
def Dl.rng (d : Dl) : Prop := d.fr < 0 ∨ d.to ≤ d.fr ∨ 4096 < d.to
instance (d : Dl) : Decidable d.rng := by unfold Dl.rng; exact inferInstance
def Dl.twice (d : Dl) : Bool := !ascB d.ad || !ascB d.rm || d.ad.any (memB d.rm)
def Dl.low (d : Dl) : Bool := (d.ad ++ d.rm).any (fun x => decide (num x < 3))
/-- The error of a delta. -/
def Dl.form (d : Dl) : Int := if d.okN = false then 3 else if d.rng then 2 else if d.twice = true then 8 else if d.low = true then 2 else 0
/-- Sizes are those of strings. -/
def SzL (l : List ByteArray) : Prop := ∀ s ∈ l, s.size ≤ 9223372036854775807
def Dl.str (d : Dl) : List ByteArray := d.ad ++ d.rm ++ [d.be, d.af, d.sc, d.sr]
theorem three_num : num ⟨#[3]⟩ = 3 := by decide
theorem three_ok : nvalid ⟨#[3]⟩ = true := by decide
theorem Dl.form_N {d : Dl} (h : d.okN = false) : d.form = 3 := by unfold Dl.form; rw [if_pos h]
theorem Dl.form_R {d : Dl} (h : d.okN = true) (h1 : d.rng) : d.form = 2 := by unfold Dl.form; rw [if_neg (by rw [h]; decide), if_pos h1]
theorem Dl.form_T {d : Dl} (h : d.okN = true) (h1 : ¬ d.rng) (h2 : d.twice = true) : d.form = 8 := by unfold Dl.form; rw [if_neg (by rw [h]; decide), if_neg h1, if_pos h2]
theorem Dl.form_L {d : Dl} (h : d.okN = true) (h1 : ¬ d.rng) (h2 : d.twice = false) (h3 : d.low = true) : d.form = 2 := by unfold Dl.form; rw [if_neg (by rw [h]; decide), if_neg h1, if_neg (by rw [h2]; decide), if_pos h3]
theorem Dl.form_0 {d : Dl} (h : d.okN = true) (h1 : ¬ d.rng) (h2 : d.twice = false) (h3 : d.low = false) : d.form = 0 := by unfold Dl.form; rw [if_neg (by rw [h]; decide), if_neg h1, if_neg (by rw [h2]; decide), if_neg (by rw [h3]; decide)]
theorem Dl.okN_no {d : Dl} {j : Nat} {y : ByteArray} (h : (d.ad ++ d.rm ++ [d.be, d.af])[j]? = some y) (hv : nvalid y = false) : d.okN = false := by
  cases h1 : d.okN with
  | false => rfl
  | true =>
    have := List.all_eq_true.1 h1 y (List.mem_of_getElem? h)
    rw [hv] at this; cases this
theorem Dl.okN_all {d : Dl} (h : ∀ (i : Nat) y, (d.ad ++ d.rm ++ [d.be, d.af])[i]? = some y → nvalid y = true) : d.okN = true := by
  refine List.all_eq_true.2 (fun y hy => ?_)
  obtain ⟨i, hi⟩ := List.getElem?_of_mem hy
  exact h i y hi
theorem Dl.okN_mem {d : Dl} (h : d.okN = true) {y : ByteArray} (hy : y ∈ d.ad ++ d.rm ++ [d.be, d.af]) : nvalid y = true := List.all_eq_true.1 h y hy
theorem Dl.okN_ad {d : Dl} (h : d.okN = true) : ∀ y ∈ d.ad, nvalid y = true := fun y hy => d.okN_mem h (by simp [hy])
theorem Dl.okN_rm {d : Dl} (h : d.okN = true) : ∀ y ∈ d.rm, nvalid y = true := fun y hy => d.okN_mem h (by simp [hy])
theorem Dl.twice_ad {d : Dl} (h : ascB d.ad = false) : d.twice = true := by unfold Dl.twice; rw [h]; rfl
theorem Dl.twice_rm {d : Dl} (h : ascB d.rm = false) : d.twice = true := by unfold Dl.twice; rw [h]; simp
theorem Dl.twice_any {d : Dl} (h : d.ad.any (memB d.rm) = true) : d.twice = true := by unfold Dl.twice; rw [h]; simp
theorem Dl.twice_no {d : Dl} (h : ascB d.ad = true) (h1 : ascB d.rm = true) (h2 : d.ad.any (memB d.rm) = false) : d.twice = false := by unfold Dl.twice; rw [h, h1, h2]; rfl
theorem Dl.low_at {d : Dl} {j : Nat} {y : ByteArray} (h : (d.ad ++ d.rm ++ [d.be, d.af])[j]? = some y) (hj : j < d.ad.length + d.rm.length) (hv : num y < 3) : d.low = true := by
  rw [List.getElem?_append_left (by simp; omega)] at h
  exact any_at h (decide_eq_true hv)
theorem Dl.low_no {d : Dl} (h : ∀ (i : Nat) y, i < d.ad.length + d.rm.length → (d.ad ++ d.rm ++ [d.be, d.af])[i]? = some y → ¬ num y < 3) : d.low = false := by
  refine any_take (fun i y hi => decide_eq_false (h i y ?_ ?_))
  · have := (List.getElem?_eq_some_iff.1 hi).1; simp at this; omega
  · have := (List.getElem?_eq_some_iff.1 hi).1
    rw [List.getElem?_append_left this]; exact hi
/-- A slice of numbers is appended to an owned one. -/
theorem wpList_append_sl (w0 w : World) {ops : Array Oper} {rest : List Oper} {o : Oper} {a : Act} {Q : Exit → Act → World → Prop} (hg : o.guard = none) (s x : Operand) (hop : o.op = Op.call { callee := Callee.builtin Builtin.append, args := #[s, x], argTypes := #[22, 22] })
    (base : Nat) (v : Value) (n : Nat) (xs : List ByteArray) (hs : a.eval s = v) (hown : w.ownsRow base 23 1 v n (xs.map Value.string)) (A : Option Addr) (m c : Nat) (l : List ByteArray) (hx : a.eval x = .slice A m c) (hsl : SlN w A m c l) (hn : n + m ≤ 4000000) (hb : Below base w0 w) (hbase : base ≤ w.heap.size)
    (hK : ∀ v' w', w'.ownsRow base 23 1 v' (n + m) ((xs ++ l).map Value.string) → Below base w0 w' → base ≤ w'.heap.size → wpList Try.prog ops Q rest (a.put o.dst v') w') : wpList Try.prog ops Q (o :: rest) a w := by
  obtain ⟨i0, hi, iz0, iz1, iz2⟩ := info_parts nat_info
  cases A with
  | none =>
    have h0 : m = 0 := by
      rcases Nat.eq_zero_or_pos m with h | h
      · exact h
      · obtain ⟨b, o, e⟩ := hsl.head h; cases e
    have hl : l = [] := List.length_eq_zero_iff.1 (by rw [hsl.1, h0])
    subst h0 hl
    obtain ⟨A6, c6, hu6, hmc⟩ : ∃ A c, v = .slice A n c ∧ n ≤ c := by
      rcases hown.2 with ⟨h, h0⟩ | ⟨g, c, _, h, _, _, h2, _⟩
      · subst h0; exact ⟨_, _, h, Nat.le_refl _⟩
      · exact ⟨_, _, h, h2⟩
    refine wpList_append_none w hg s x 22 hop 23 i0 Try.underlying22 hi A6 n c6 (hs.trans hu6) hmc c hx ?_
    have := hK v w (by simpa using hown) hb hbase
    rwa [hu6] at this
  | some ad =>
    refine wpList_append_own w hg s x 22 hop base 23 i0 _ 1 16 Try.underlying22 hi iz0 iz1 iz2 rfl (by decide) v n _ hs hown ad m c (l.map Value.string) hx (by rw [List.length_map, hsl.1, Nat.mul_one]) hsl.cells (strs_one _) (by unfold maxLen; omega) (by omega) hbase ?_
    intro v' w' hown' hgrow _
    have hb' := hb.grown hgrow hbase (fun k hk => (hown.lt k hk).1)
    exact hK v' w' (by rw [List.map_append]; exact hown') hb' (Nat.le_trans hbase hgrow.size)
set_option maxRecDepth 100000 in
set_option maxHeartbeats 4000000 in
theorem r37_Form (d : Dl) (A A' : Option Addr) (n c n' c' : Nat) (w : World) (hs : SlN w A n c d.ad) (hs' : SlN w A' n' c' d.rm) (hn : n ≤ 1000000) (hn' : n' ≤ 999998) (hz : SzL d.str) : Calls Try.prog 27 #[.agg (d.arr (.slice A n c) (.slice A' n' c'))] w (Ret (.int .i64 d.form) w) := by
  obtain ⟨W0, hW0⟩ : ∃ W0, w.alloc (.cells (d.arr (.slice A n c) (.slice A' n' c')) 27) = W0 := ⟨_, rfl⟩
  have HX0 := Lib.hid (show BxC W0 w.heap.size (d.arr (.slice A n c) (.slice A' n' c')) 27 from by rw [← hW0]; exact BxC.new w _ _)
  have HB0 := Lib.hid (show Below w.heap.size w W0 from by rw [← hW0]; exact (Below.refl _ _).alloc (Nat.le_refl _) _)
  have HW0 := Lib.hid (show w.heap.size + 1 = W0.heap.size from by rw [← hW0]; simp)
  have HS := Lib.hid (hs.kept HB0.out (Nat.le_refl _))
  have HS' := Lib.hid (hs'.kept HB0.out (Nat.le_refl _))
  have HZ := Lib.hid hz
  have hc := hs.2.1
  have hc2 := hs.2.2.1
  have hc' := hs'.2.1
  have hc2' := hs'.2.2.1
  have HN := Lib.hid hs.1
  have HN' := Lib.hid hs'.1
  have x0 : W0.cell? ⟨w.heap.size, 0, none⟩ = some (.int .i64 d.fr) := HX0.out.cell 0
  have x1 : W0.cell? ⟨w.heap.size, 1, none⟩ = some (.int .i64 d.to) := HX0.out.cell 1
  have x2 : W0.cell? ⟨w.heap.size, 2, none⟩ = some (.slice A n c) := HX0.out.cell 2
  have x3 : W0.cell? ⟨w.heap.size, 3, none⟩ = some (.slice A' n' c') := HX0.out.cell 3
  clear hs hs' hz
  unfold Dl.arr at hW0 ⊢
  go_enter Try.func27, Try.ntmps27
  go_wp2_with (at_builtin; refine wpList_append_sl W0 _ rfl (.tmp 8) (.tmp 10) rfl W0.heap.size _ 0 [] rfl (World.ownsRow_nil _ _ _ _) A n c d.ad rfl HS.out (by omega) (Below.refl _ _) (Nat.le_refl _) ?_)
  intro v1 w1 hown hb hsz
  have HO1 := Lib.hid (show w1.ownsRow W0.heap.size 23 1 v1 n (d.ad.map Value.string) from hown)
  have HB1 := Lib.hid hb
  have HX1 := Lib.hid (HX0.out.kept hb HX0.out.lt)
  have y3 : w1.cell? ⟨w.heap.size, 3, none⟩ = some (.slice A' n' c') := HX1.out.cell 3
  have HSZ1 := Lib.hid hsz
  clear hown hb hsz
  go_wp2_with (at_builtin; refine wpList_append_sl W0 _ rfl (.tmp 12) (.tmp 14) rfl W0.heap.size _ n _ rfl HO1.out A' n' c' d.rm rfl (HS'.out.kept HB1.out (Nat.le_refl _)) (by omega) HB1.out HSZ1.out ?_)
  intro v2 w2 hown hb hsz
  have HO2 := Lib.hid (show w2.ownsRow W0.heap.size 23 1 v2 (n + n') ((d.ad ++ d.rm).map Value.string) from by rw [List.map_append]; exact hown)
  have HB2 := Lib.hid hb
  have HX2 := Lib.hid (HX0.out.kept hb HX0.out.lt)
  have z4 : w2.cell? ⟨w.heap.size, 4, none⟩ = some (.string d.be) := HX2.out.cell 4
  have z5 : w2.cell? ⟨w.heap.size, 5, none⟩ = some (.string d.af) := HX2.out.cell 5
  have HSZ2 := Lib.hid hsz
  clear hown hb hsz y3
  have hv2 : ∃ A2 c2, v2 = .slice A2 (n + n') c2 := by
    obtain ⟨_, A2, c2, e, _⟩ := SlN.of_owns HO2.out
    exact ⟨A2, c2, e⟩
  obtain ⟨A2, c2, rfl⟩ := hv2
  go_wp2_with (at_builtin; go_must (refine wpList_append_sl W0 _ rfl (.tmp 18) (.tmp 23) rfl W0.heap.size _ (n + n') _ rfl (HO2.out.alloc (.cells ([d.be, d.af].map Value.string).toArray 23)) (some ⟨w2.heap.size, 0, none⟩) 2 2 [d.be, d.af] rfl (SlN.new w2 [d.be, d.af] 23 (by simp)) (by omega) (HB2.out.alloc HSZ2.out _) (by have := HSZ2.out; simp; omega) ?_))
  intro v3 w3 hown hb hsz
  obtain ⟨hl3, A3, c3, rfl, hs3⟩ := SlN.of_owns (l := d.ad ++ d.rm ++ [d.be, d.af]) (by rw [List.map_append, List.map_append, List.append_assoc]; exact hown)
  have HL3 := Lib.hid hl3
  have HS3 := Lib.hid hs3
  have HX3 := Lib.hid (HX0.out.kept hb HX0.out.lt)
  have HBT := Lib.hid (HB0.out.trans (hb.mono HB0.out.size))
  have HSA := Lib.hid (HS.out.kept hb (Nat.le_refl _))
  have HSR := Lib.hid (HS'.out.kept hb (Nat.le_refl _))
  have hc3 := hs3.2.1
  have hc32 := hs3.2.2.1
  have q0 : w3.cell? ⟨w.heap.size, 0, none⟩ = some (.int .i64 d.fr) := HX3.out.cell 0
  have q1 : w3.cell? ⟨w.heap.size, 1, none⟩ = some (.int .i64 d.to) := HX3.out.cell 1
  have q2 : w3.cell? ⟨w.heap.size, 2, none⟩ = some (.slice A n c) := HX3.out.cell 2
  have q3 : w3.cell? ⟨w.heap.size, 3, none⟩ = some (.slice A' n' c') := HX3.out.cell 3
  clear hown hb hsz hs3 hl3 z4 z5 x0 x1 x2 x3 hW0
  obtain ⟨L, hL⟩ : ∃ L, d.ad ++ d.rm ++ [d.be, d.af] = L := ⟨_, rfl⟩
  rw [hL] at HL3 HS3
  have HLE := Lib.hid hL
  have HZL := Lib.hid (show SzL L from fun s hs => HZ.out s (by rw [← hL] at hs; unfold Dl.str; simp only [List.mem_append, List.mem_cons, List.mem_nil_iff, or_false] at hs ⊢; rcases hs with (h | h) | h | h <;> simp [h]))
  clear hL
  go_wp2
  go_loop [5] (fun k => ∃ j : Nat, j ≤ n + n' + 2 ∧ k = .int .i64 j ∧ (∀ (i : Nat) y, i < j → L[i]? = some y → nvalid y = true)) (fun k => n + n' + 2 - (intOf k).toNat)
  case atStart => exact ⟨0, Nat.zero_le _, rfl, fun i u h => absurd h (Nat.not_lt_zero _)⟩
  case round =>
    obtain ⟨j, hj, rfl, hall⟩ := hrel
    have HALL := Lib.hid hall
    clear hall
    by_cases hlt : j < n + n' + 2
    · obtain ⟨y, he⟩ : ∃ y, L[j]? = some y := ⟨_, List.getElem?_eq_getElem (by rw [HL3.out]; exact hlt)⟩
      obtain ⟨b, o, rfl, e1⟩ := HS3.out.cell he
      have hy := HZL.out y (List.mem_of_getElem? he)
      have HC := Lib.hid (r01_Valid y hy w3)
      have HE := Lib.hid he
      clear he hy
      go_wp2_with fail
      refine HC.out.mono ?_
      rintro e w4 ⟨rfl, rfl⟩
      cases hh : nvalid y with
      | false =>
        have HF := Lib.hid (Dl.form_N (Dl.okN_no (by rw [HLE.out]; exact HE.out) hh))
        clear hh
        go_wp2
        go_ret
        exact ⟨by rw [HF.out]; rfl, HBT.out⟩
      | true =>
        have HA2 := Lib.hid (show ∀ (i : Nat) u, i < j + 1 → L[i]? = some u → nvalid u = true from fun i u hi hu => by
          rcases Nat.lt_or_ge i j with h | h
          · exact HALL.out i u h hu
          · obtain rfl : i = j := by omega
            rw [HE.out] at hu; cases hu; exact hh)
        clear hh
        go_wp2
        go_round
        case rel => exact ⟨j + 1, by omega, by go_num, HA2.out⟩
        case measure => simp [intOf]; omega
    · obtain rfl : j = n + n' + 2 := by omega
      have HOK := Lib.hid (show d.okN = true from Dl.okN_all (fun i y h => HALL.out i y (by rw [HLE.out] at h; have := (List.getElem?_eq_some_iff.1 h).1; have := HL3.out; omega) (by rw [← HLE.out]; exact h)))
      clear hlt hj
      by_cases h1 : d.fr < 0
      · have HF := Lib.hid (Dl.form_R HOK.out (.inl h1))
        have g1 : decide (d.fr < 0) = true := decide_eq_true h1
        go_wp2
        go_ret
        exact ⟨by rw [HF.out]; rfl, HBT.out⟩
      · have g1 : decide (d.fr < 0) = false := decide_eq_false h1
        by_cases h2 : d.to ≤ d.fr
        · have HF := Lib.hid (Dl.form_R HOK.out (.inr (.inl h2)))
          have g2 : decide (d.to ≤ d.fr) = true := decide_eq_true h2
          go_wp2
          go_ret
          exact ⟨by rw [HF.out]; rfl, HBT.out⟩
        · have g2 : decide (d.to ≤ d.fr) = false := decide_eq_false h2
          by_cases h3 : 4096 < d.to
          · have HF := Lib.hid (Dl.form_R HOK.out (.inr (.inr h3)))
            have g3 : decide (4096 < d.to) = true := decide_eq_true h3
            go_wp2
            go_ret
            exact ⟨by rw [HF.out]; rfl, HBT.out⟩
          · have g3 : decide (4096 < d.to) = false := decide_eq_false h3
            have HNR := Lib.hid (show ¬ d.rng from fun h => by rcases h with h | h | h <;> contradiction)
            go_wp2_with fail
            refine (r37_ascends d.ad A n c w3 HSA.out (Dl.okN_ad HOK.out)).mono ?_
            rintro e w4 ⟨rfl, hb⟩
            have HB4 := Lib.hid hb
            have HBU := Lib.hid (HBT.out.trans (hb.mono HBT.out.size))
            have r3 : w4.cell? ⟨w.heap.size, 3, none⟩ = some (.slice A' n' c') := cell_kept hb (Nat.le_refl _) q3
            have r2 : w4.cell? ⟨w.heap.size, 2, none⟩ = some (.slice A n c) := cell_kept hb (Nat.le_refl _) q2
            clear hb
            cases ha : ascB d.ad with
            | false =>
              have HF := Lib.hid (Dl.form_T HOK.out HNR.out (Dl.twice_ad ha))
              clear ha
              go_wp2
              go_ret
              exact ⟨by rw [HF.out]; rfl, HBU.out⟩
            | true =>
              have HA := Lib.hid ha
              clear ha
              go_wp2_with fail
              refine (r37_ascends d.rm A' n' c' w4 (HSR.out.kept HB4.out (Nat.le_refl _)) (Dl.okN_rm HOK.out)).mono ?_
              rintro e w5 ⟨rfl, hb⟩
              have HB5 := Lib.hid (HB4.out.trans (hb.mono HB4.out.size))
              have HBV := Lib.hid (HBT.out.trans (HB5.out.mono HBT.out.size))
              clear hb r3 r2
              cases ha : ascB d.rm with
              | false =>
                have HF := Lib.hid (Dl.form_T HOK.out HNR.out (Dl.twice_rm ha))
                clear ha
                go_wp2
                go_ret
                exact ⟨by rw [HF.out]; rfl, HBV.out⟩
              | true =>
                have HR := Lib.hid ha
                clear ha h1 h2 h3 g1 g2 g3
                go_wp2
                go_loopw [6] (fun i wr => ∃ j : Nat, j ≤ n ∧ i = .int .i64 j ∧ (∀ (i : Nat) y, i < j → d.ad[i]? = some y → memB d.rm y = false) ∧ Below w3.heap.size w3 wr) (fun i _ => n - (intOf i).toNat)
                case atStart => exact ⟨0, Nat.zero_le _, rfl, fun i u h => absurd h (Nat.not_lt_zero _), HB5.out⟩
                case round =>
                  obtain ⟨j, hj, rfl, hall, hbb⟩ := hrel
                  have HALI := Lib.hid hall
                  have HB := Lib.hid hbb
                  have HBW := Lib.hid (HBT.out.trans (hbb.mono HBT.out.size))
                  have t2 : wr.cell? ⟨w.heap.size, 2, none⟩ = some (.slice A n c) := cell_kept hbb (Nat.le_refl _) q2
                  clear hall hbb
                  by_cases hlt : j < n
                  · obtain ⟨y, he⟩ : ∃ y, d.ad[j]? = some y := ⟨_, List.getElem?_eq_getElem (by rw [HN.out]; exact hlt)⟩
                    obtain ⟨b, o, rfl, e1⟩ := (HSA.out.kept HB.out (Nat.le_refl _)).cell he
                    have e1 : wr.drew.cell? ⟨b, o + j, none⟩ = some (.string y) := e1
                    have e2 : wr.drew.cell? ⟨w.heap.size, 2, none⟩ = some (.slice (some ⟨b, o, none⟩) n c) := t2
                    have e3 : wr.drew.cell? ⟨w.heap.size, 3, none⟩ = some (.slice A' n' c') := cell_kept HB.out (Nat.le_refl _) q3
                    have HCM := Lib.hid (r37_has d.rm A' n' c' y wr.drew ((HSR.out.kept HB.out (Nat.le_refl _)).kept (Below.refl _ wr).drew (Nat.le_refl _)))
                    have HE := Lib.hid he
                    clear he
                    go_wp2
                    refine wp_region_K 8 (Below (wr.drew).heap.size (wr.drew)) (by kernel_rfl) ?_
                    intro hD
                    refine wpAnyK_pureD (i := 0) (d := some 69) (v := ?v18_0b1) (fuel := 7) rfl (by kernel_rfl) (by kernel_rfl) (fun _ _ _ h => h) hD (Below.refl _ _) (.inl ⟨by kernel_rfl, ?y18_0b1⟩) ?n18_0b1
                    case y18_0b1 => intro w' _; go_simp; with_reducible rfl
                    clear hD; intro hD
                    simp only [Act.put, List.setIfInBounds_toArray, List.set_cons_zero, List.set_cons_succ]
                    refine wpAnyK_takeSD (i := 1) (d := some 70) (v := ?v18_1b1) (fuel := 6) rfl (by kernel_rfl) (by kernel_rfl) (by kernel_rfl) (fun _ _ _ h => h) hD (Below.refl _ _) (.inl ⟨by kernel_rfl, ?y18_1b1⟩) ?n18_1b1
                    case y18_1b1 => intro w' hS'; have e0 := cell_kept hS' (Nat.le_refl _) e1; have e1 := cell_kept hS' (Nat.le_refl _) e2; have e2 := cell_kept hS' (Nat.le_refl _) e3; go_simp; with_reducible rfl
                    clear hD; intro hD
                    simp only [Act.put, List.setIfInBounds_toArray, List.set_cons_zero, List.set_cons_succ]
                    refine wpAnyK_pureD (i := 2) (d := some 71) (v := ?v18_2b1) (fuel := 5) rfl (by kernel_rfl) (by kernel_rfl) (fun _ _ _ h => h) hD (Below.refl _ _) (.inl ⟨by kernel_rfl, ?y18_2b1⟩) ?n18_2b1
                    case y18_2b1 => intro w' _; go_simp; with_reducible rfl
                    clear hD; intro hD
                    simp only [Act.put, List.setIfInBounds_toArray, List.set_cons_zero, List.set_cons_succ]
                    refine wpAnyK_takeSD (i := 3) (d := some 72) (v := ?v18_3b1) (fuel := 4) rfl (by kernel_rfl) (by kernel_rfl) (by kernel_rfl) (fun _ _ _ h => h) hD (Below.refl _ _) (.inl ⟨by kernel_rfl, ?y18_3b1⟩) ?n18_3b1
                    case y18_3b1 => intro w' hS'; have e0 := cell_kept hS' (Nat.le_refl _) e1; have e1 := cell_kept hS' (Nat.le_refl _) e2; have e2 := cell_kept hS' (Nat.le_refl _) e3; go_simp; with_reducible rfl
                    clear hD; intro hD
                    simp only [Act.put, List.setIfInBounds_toArray, List.set_cons_zero, List.set_cons_succ]
                    refine wpAnyK_pureD (i := 4) (d := some 73) (v := ?v18_4b1) (fuel := 3) rfl (by kernel_rfl) (by kernel_rfl) (fun _ _ _ h => h) hD (Below.refl _ _) (.inl ⟨by kernel_rfl, ?y18_4b1⟩) ?n18_4b1
                    case y18_4b1 => intro w' _; go_simp; with_reducible rfl
                    clear hD; intro hD
                    simp only [Act.put, List.setIfInBounds_toArray, List.set_cons_zero, List.set_cons_succ]
                    refine wpAnyK_pureD (i := 5) (d := some 74) (v := ?v18_5b1) (fuel := 2) rfl (by kernel_rfl) (by kernel_rfl) (fun _ _ _ h => h) hD (Below.refl _ _) (.inl ⟨by kernel_rfl, ?y18_5b1⟩) ?n18_5b1
                    case y18_5b1 => intro w' _; go_simp; with_reducible rfl
                    clear hD; intro hD
                    simp only [Act.put, List.setIfInBounds_toArray, List.set_cons_zero, List.set_cons_succ]
                    refine wpAnyK_takeSD (i := 6) (d := some 75) (v := ?v18_6b1) (fuel := 1) rfl (by kernel_rfl) (by kernel_rfl) (by kernel_rfl) (fun _ _ _ h => h) hD (Below.refl _ _) (.inl ⟨by kernel_rfl, ?y18_6b1⟩) ?n18_6b1
                    case y18_6b1 => intro w' hS'; have e0 := cell_kept hS' (Nat.le_refl _) e1; have e1 := cell_kept hS' (Nat.le_refl _) e2; have e2 := cell_kept hS' (Nat.le_refl _) e3; go_simp; with_reducible rfl
                    clear hD; intro hD
                    simp only [Act.put, List.setIfInBounds_toArray, List.set_cons_zero, List.set_cons_succ]
                    refine wpAnyK_one (i := 7) (fuel := 0) (by kernel_rfl) rfl hD ?_
                    clear hD; intro K7 hK7
                    go_wp2_with fail
                    refine HCM.out.mono ?_
                    rintro e w1 ⟨rfl, hb⟩
                    have HL1 := Lib.hid hb
                    go_wp2
                    refine hK7 _ _ (by exact hb) ?_; clear hK7; intro hS_18_7 hD
                    refine wpAnyK_done (by kernel_rfl) ?_ 0
                    clear hD
                    cases hh : memB d.rm y with
                    | true =>
                      have HF := Lib.hid (Dl.form_T HOK.out HNR.out (Dl.twice_any (any_at HE.out hh)))
                      clear hh
                      go_wp2
                      go_ret
                      exact ⟨by rw [HF.out]; rfl, HBW.out.trans (((Below.refl wr.heap.size wr).drew.trans HL1.out).mono HBW.out.size)⟩
                    | false =>
                      have HA2 := Lib.hid (show ∀ (i : Nat) u, i < j + 1 → d.ad[i]? = some u → memB d.rm u = false from fun i u hi hu => by
                        rcases Nat.lt_or_ge i j with h | h
                        · exact HALI.out i u h hu
                        · obtain rfl : i = j := by omega
                          rw [HE.out] at hu; cases hu; exact hh)
                      have HBX := Lib.hid (HB.out.trans (((Below.refl wr.heap.size wr).drew.trans HL1.out).mono HB.out.size))
                      clear hh
                      go_wp2
                      go_roundw
                      case rel => exact ⟨j + 1, by omega, by go_num, HA2.out, HBX.out⟩
                      case measure => simp [intOf]; omega
                  · obtain rfl : j = n := by omega
                    obtain ⟨wz, hwz⟩ : ∃ wz, wz = wr := ⟨_, rfl⟩
                    subst hwz
                    have HT := Lib.hid (show d.twice = false from Dl.twice_no HA.out HR.out (any_take (fun i y h => HALI.out i y (by have := (List.getElem?_eq_some_iff.1 h).1; have := HN.out; omega) h)))
                    have HSW := Lib.hid (HS3.out.kept HB.out (Nat.le_refl _))
                    clear hlt hj q0 q1 q2 q3
                    go_wp2
                    go_loopw [7] (fun i wr => ∃ k : Nat, k ≤ j + n' ∧ i = .int .i64 k ∧ (∀ (i : Nat) y, i < k → L[i]? = some y → ¬ num y < 3) ∧ Below wz.heap.size wz wr) (fun i _ => j + n' - (intOf i).toNat)
                    case atStart => exact ⟨0, Nat.zero_le _, rfl, fun i u h => absurd h (Nat.not_lt_zero _), Below.refl _ _⟩
                    case round =>
                      obtain ⟨k, hk, rfl, hall, hbb⟩ := hrel
                      have HALM := Lib.hid hall
                      have HBQ := Lib.hid hbb
                      clear hall hbb
                      by_cases hlt : k < j + n'
                      · obtain ⟨y, he⟩ : ∃ y, L[k]? = some y := ⟨_, List.getElem?_eq_getElem (by rw [HL3.out]; omega)⟩
                        obtain ⟨b, o, rfl, e1⟩ := (HSW.out.kept HBQ.out (Nat.le_refl _)).cell he
                        have hy := HZL.out y (List.mem_of_getElem? he)
                        have hv : nvalid y = true := Dl.okN_mem HOK.out (by rw [HLE.out]; exact List.mem_of_getElem? he)
                        have HC := Lib.hid (r01_Order y ⟨#[3]⟩ hy (by decide) wr)
                        have HE := Lib.hid he
                        rw [ordB_num hv three_ok, three_num] at HC
                        clear he hy hv
                        go_wp2_with fail
                        refine HC.out.mono ?_
                        rintro e w6 ⟨rfl, hb⟩
                        have HB6 := Lib.hid (HBQ.out.trans (hb.mono HBQ.out.size))
                        clear hb
                        by_cases hlt2 : num y < 3
                        · have h0 : cmpI (num y) 3 < 0 := cmpI_neg.2 hlt2
                          have HF := Lib.hid (Dl.form_L HOK.out HNR.out HT.out (Dl.low_at (by rw [HLE.out]; exact HE.out) (by rw [HN.out, HN'.out]; exact hlt) hlt2))
                          obtain ⟨cc, hcc⟩ : ∃ cc, cmpI (num y) 3 = cc := ⟨_, rfl⟩
                          rw [hcc] at h0 ⊢
                          clear hcc hlt2
                          go_wp2
                          go_ret
                          exact ⟨by rw [HF.out]; rfl, HBW.out.trans (HB6.out.mono HBW.out.size)⟩
                        · have h0 : ¬ (cmpI (num y) 3 < 0) := fun h => hlt2 (cmpI_neg.1 h)
                          have HA2 := Lib.hid (show ∀ (i : Nat) u, i < k + 1 → L[i]? = some u → ¬ num u < 3 from fun i u hi hu => by
                            rcases Nat.lt_or_ge i k with h | h
                            · exact HALM.out i u h hu
                            · obtain rfl : i = k := by omega
                              rw [HE.out] at hu; cases hu; exact hlt2)
                          obtain ⟨cc, hcc⟩ : ∃ cc, cmpI (num y) 3 = cc := ⟨_, rfl⟩
                          rw [hcc] at h0 ⊢
                          clear hcc hlt2
                          go_wp2
                          go_roundw
                          case rel => exact ⟨k + 1, by omega, by go_num, HA2.out, HB6.out⟩
                          case measure => simp [intOf]; omega
                      · obtain rfl : k = j + n' := by omega
                        have HF := Lib.hid (Dl.form_0 HOK.out HNR.out HT.out (Dl.low_no (fun i y hi h => HALM.out i y (by rw [HN.out, HN'.out] at hi; exact hi) (by rw [← HLE.out]; exact h))))
                        clear hlt hk
                        go_wp2
                        go_ret
                        exact ⟨by rw [HF.out]; rfl, HBW.out.trans (HBQ.out.mono HBW.out.size)⟩
end Go.Proofs.Ytelhpdlegjgjjaa

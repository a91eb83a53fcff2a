/- Walk: dominolaw09.awake. -/
import Derived.Test.YtcbjadaghpmejaaDoorAw9
set_option linter.unusedVariables false
set_option linter.unusedSimpArgs false
namespace Go.Proofs.YtcbjadaghpmejaaDoor
open Go.RowKit Go.Shelf
attribute [local go_sem] Oper.semAt_some

/-- A block of cells is none of the iterator's business. -/
theorem cells_own {β : Type} (B : Nat) (cs : Array Value) (T : TypeId) : Own (fun (_ : β) W => W.heap[B]? = some (.cells cs T (0, 0))) := fun s X Y row hs hg hrow =>
  (hg.block B (block_lt hs) (fun e' => by obtain ⟨o, ho, hc⟩ := hrow B e'.symm; rw [show X.heap[B]? = _ from hs] at ho; cases ho; cases hc)).trans hs
set_option maxRecDepth 100000 in
set_option maxHeartbeats 4000000 in
theorem awake9 (w : World) : Calls Tryd.prog 6 #[] w (Ret (.bool true) w) := by
  have HMU := Lib.hid ex_Mul
  have HPO := Lib.hid ex_Pow
  have HLO := Lib.hid ex_Log
  have HGE := Lib.hid ex_Gen
  have HHA := Lib.hid ex_Has
  have HC1 := Lib.hid ex_check
  have HC2 := Lib.hid ex_check2
  have HSM := Lib.hid law_small
  have HEL := Lib.hid (pg_Elements ⟨#[23]⟩ ⟨#[11]⟩ ⟨#[4]⟩)
  have HES := Lib.hid (fun k (hk : 1 ≤ k) D w hD hE => elements_stops k hk ⟨#[23]⟩ ⟨#[11]⟩ ⟨#[4]⟩ (by decide) (by decide) (by decide) D w hD hE)
  unfold gV at HMU HPO HLO HGE HHA HC1 HC2 HSM HEL
  unfold zV at HPO
  refine (callsIn_wide (n := 3)).1 ?_
  refine callsIn_of_wp_marks Tryd.func6 rfl trivial ?_ rfl
  simp only [Tryd.ntmps6, List.size_toArray, List.length_cons, List.length_nil, Nat.reduceAdd, Nat.reduceSub, Array.replicate_succ, Array.replicate_zero, List.push_toArray, List.append_toArray, List.nil_append, List.cons_append]
  gi_wp2
  refine ⟨trivial, callsIn_wide.2 ((HSM.out _).mono ?_)⟩
  rintro e w1 ⟨rfl, hb1⟩
  obtain ⟨G, hG⟩ : ∃ G, w1.heap.size = G := ⟨_, rfl⟩
  have hwG : w.heap.size ≤ G := by rw [← hG]; exact hb1.size
  have HX1 := Lib.hid (show Bx2 (w1.alloc (.cells #[.string ⟨#[23]⟩, .string ⟨#[11]⟩] 24)) G (.string ⟨#[23]⟩) (.string ⟨#[11]⟩) 24 from by rw [← hG]; exact Bx2.new _ _ _ _)
  have HB1 := Lib.hid (hb1.alloc hb1.size (.cells #[.string ⟨#[23]⟩, .string ⟨#[11]⟩] 24))
  have c0 := HX1.out.c0
  have c1 := HX1.out.c1
  clear hb1
  gi_wp2
  refine ⟨trivial, callsIn_wide.2 ((HMU.out _).mono ?_)⟩
  rintro e w2 ⟨rfl, hb2⟩
  have HX2 := Lib.hid (HX1.out.next hb2)
  have HB2 := Lib.hid (HB1.out.trans (hb2.mono HB1.out.size))
  clear hb2 c0 c1
  have c0 := HX2.out.c0
  have c1 := HX2.out.c1
  gi_wp2
  refine ⟨trivial, callsIn_wide.2 ((HPO.out _).mono ?_)⟩
  rintro e w3 ⟨rfl, hb3⟩
  have HX3 := Lib.hid (HX2.out.next hb3)
  have HB3 := Lib.hid (HB2.out.trans (hb3.mono HB2.out.size))
  clear hb3 c0 c1
  have c0 := HX3.out.c0
  have c1 := HX3.out.c1
  gi_wp2
  refine ⟨trivial, callsIn_wide.2 ((HLO.out _).mono ?_)⟩
  rintro e w4 ⟨rfl, hb4⟩
  have HX4 := Lib.hid (HX3.out.next hb4)
  have HB4 := Lib.hid (HB3.out.trans (hb4.mono HB3.out.size))
  clear hb4 c0 c1
  have c0 := HX4.out.c0
  have c1 := HX4.out.c1
  have hx5 := HX4.out.next ((Below.refl w4.heap.size w4).alloc (Nat.le_refl _) (.cells #[.int .i64 0] 3))
  clear c0 c1
  have c0 := hx5.c0
  have c1 := hx5.c1
  clear hx5
  gi_wp2
  clear c0 c1
  obtain ⟨N, hN⟩ : ∃ N, w4.heap.size = N := ⟨_, rfl⟩
  obtain ⟨W5, hW5⟩ : ∃ W5, w4.alloc (.cells #[.int .i64 0] 3) = W5 := ⟨_, rfl⟩
  have hN5 : W5.heap[N]? = some (.cells #[.int .i64 0] 3 (0, 0)) := by rw [← hW5, ← hN]; exact heap_alloc_new _ _
  have hs5 : W5.heap.size = N + 1 := by rw [← hW5, ← hN]; exact World.size_alloc _ _
  have HX5 := Lib.hid (show Bx2 W5 G (.string ⟨#[23]⟩) (.string ⟨#[11]⟩) 24 from by rw [← hW5]; exact HX4.out.next ((Below.refl _ _).alloc (Nat.le_refl _) _))
  have HB5 := Lib.hid (show Below w.heap.size w W5 from by rw [← hW5]; exact HB4.out.alloc HB4.out.size _)
  rw [hN, hW5]
  clear hW5
  refine ⟨trivial, callsIn_wide.2 ((HEL.out _).mono ?_)⟩
  rintro e w6 ⟨rfl, rfl⟩
  obtain ⟨W6, hW6⟩ : ∃ W6, (W5.alloc (.cells #[.string ⟨#[23]⟩, .string ⟨#[11]⟩] 24)).alloc (.cells #[.string ⟨#[4]⟩] 22) = W6 := ⟨_, rfl⟩
  have hb6 : Below W5.heap.size W5 W6 := by rw [← hW6]; exact ((Below.refl _ _).alloc (Nat.le_refl _) _).alloc (by simp) _
  have HX6 := Lib.hid (HX5.out.next hb6)
  have HB6 := Lib.hid (HB5.out.trans (hb6.mono HB5.out.size))
  have HN6 := Lib.hid (show W6.heap[N]? = some (.cells #[.int .i64 0] 3 (0, 0)) from (hb6.block N (by omega)).trans hN5)
  have HD6 := Lib.hid (show Bx2 W6 (N + 1) (.string ⟨#[23]⟩) (.string ⟨#[11]⟩) 24 from by
    rw [← hW6, ← hs5]
    exact (Bx2.new W5 _ _ _).next ((Below.refl _ _).alloc (Nat.le_refl _) _))
  have HE6 := Lib.hid (show BoxS W6 (N + 1 + 1) ⟨#[4]⟩ from by
    rw [← hW6, ← hs5]
    have := BoxS.new (W5.alloc (.cells #[.string ⟨#[23]⟩, .string ⟨#[11]⟩] 24)) ⟨#[4]⟩
    rwa [World.size_alloc] at this)
  have hs6 : N + 1 + 1 < W6.heap.size := HE6.out.lt
  have hwN : w.heap.size ≤ N := by rw [← hN]; exact HB4.out.size
  have hGN : G < N := by rw [← hN]; exact HX4.out.lt
  rw [hW6, hs5]
  clear hW6 hb6 hN5 hN HX1 HX2 HX3 HX4 HX5 HB1 HB2 HB3 HB4 HB5
  have hnil := fun (W : World) => (show (binOp BinOp.eql 48 (.func (.func 36) #[] #[.pointer (some ⟨N + 1, 0, none⟩), .pointer (some ⟨N + 1 + 1, 0, none⟩)]) .nilFunc).run Tryd.prog W = .ok (.bool false) W from by kernel_rfl)
  gi_wp2
  have HNL := Lib.hid ex_elem
  refine wpIn_rangeFunc_ownF rfl (by omega) (gf := 36) (lb := #[.pointer (some ⟨N + 1, 0, none⟩), .pointer (some ⟨N + 1 + 1, 0, none⟩)]) rfl trivial (enters_of Tryd.func36 (by kernel_rfl) rfl)
    (HES.out 2 (by omega) (N + 1) W6 HD6.out HE6.out) (fun h k => ⟨k.1.trans h.1, k.2.trans h.2⟩) (fun W l o o' hl _ _ _ => ⟨World.putObj_heap_other (by omega), World.putObj_heap_other (by omega)⟩) (Below.refl _ _) (fun _ => rfl)
    (fun pre W => (Bx2 W G (.string ⟨#[23]⟩) (.string ⟨#[11]⟩) 24 ∧ Boxed W N 3 (.int .i64 (pre.length : Nat))) ∧ Below w.heap.size w W)
    (fun _ _ _ => False)
    (OwnFrom.and (Own.from (fun s X Y row hs hg hr => ⟨cells_own G #[.string ⟨#[23]⟩, .string ⟨#[11]⟩] 24 s X Y row hs.1 hg hr, boxed_own N 3 (fun pre : List Nat => .int .i64 (pre.length : Nat)) s X Y row hs.2 hg hr⟩) _) (ownFrom_below (by omega) (by omega)))
    (fun _ _ _ _ _ hs _ _ => hs)
    ⟨⟨HX6.out, HN6.out⟩, HB6.out⟩
    (fun x => { tmps := #[.bool false, .pointer (some ⟨G, 0, none⟩), .string ⟨#[3]⟩, .int .i64 0, .string ⟨#[6]⟩, .int .i64 0, .int .i64 6, .bool true, .pointer (some ⟨N, 0, none⟩), .func (.func 36) #[] #[.pointer (some ⟨N + 1, 0, none⟩), .pointer (some ⟨N + 1 + 1, 0, none⟩)], .agg #[.string ⟨#[23]⟩, .string ⟨#[11]⟩], .tuple #[.string ⟨#[3]⟩, .int .i64 0], .agg #[.string ⟨#[23]⟩, .string ⟨#[11]⟩], .tuple #[.string ⟨#[3]⟩, .int .i64 0], .string ⟨#[3]⟩, .int .i64 0, .tuple #[.string ⟨#[6]⟩, .int .i64 0], .agg #[.string ⟨#[23]⟩, .string ⟨#[11]⟩], .agg #[.bool true, .string ⟨#[1]⟩], .tuple #[.string ⟨#[6]⟩, .int .i64 0], .string ⟨#[6]⟩, .int .i64 0, .tuple #[.int .i64 6, .bool true], .agg #[.string ⟨#[23]⟩, .string ⟨#[11]⟩], .tuple #[.int .i64 6, .bool true], .int .i64 6, .bool true, .agg #[.string ⟨#[23]⟩, .string ⟨#[11]⟩], .func (.func 36) #[] #[.pointer (some ⟨N + 1, 0, none⟩), .pointer (some ⟨N + 1 + 1, 0, none⟩)], .func (.func 36) #[] #[.pointer (some ⟨N + 1, 0, none⟩), .pointer (some ⟨N + 1 + 1, 0, none⟩)], .bool false, .func (.func 36) #[] #[.pointer (some ⟨N + 1, 0, none⟩), .pointer (some ⟨N + 1 + 1, 0, none⟩)], .string (nS x), undef, undef, undef, undef, undef, undef, undef, undef, undef, undef, undef, undef, undef, undef, undef, undef, undef, undef, undef, undef, undef, undef, undef, undef, undef, undef, undef, undef, undef, undef, undef, undef, undef, undef, undef, undef, undef, undef, undef, undef, undef, undef, undef, undef, undef, undef], defers := [] }) ?assign ?body ?done ?stop
  case assign =>
    intro l x W K hK
    gi_wp2
    exact hK
  case body =>
    rintro l pre x W ⟨⟨hX', hN'⟩, hB'⟩ hlen
    rw [HNL.out] at hlen
    have HX' := Lib.hid hX'
    have HN' := Lib.hid hN'
    have HB' := Lib.hid hB'
    have n0 := hN'.cell
    have nf := hN'.frozen
    clear hX' hN' hB'
    gi_wp2
    refine ⟨KeepsOthers.setCell _ _ _, ⟨heap_setCell_other _ _ _ _ (by simp only []; omega), heap_setCell_other _ _ _ _ (by simp only []; omega)⟩, ⟨⟨Bx2.other HX'.out (by omega) _, ?_⟩, HB'.out.setCell (p := ⟨N, 0, none⟩) (by simp only []; omega) _⟩⟩
    rw [List.length_append, List.length_singleton, Int.natCast_add]
    exact block_setCell HN'.out _
  case done =>
    rintro D' ys W hD' rfl ⟨⟨hX', hN'⟩, hB'⟩ hK
    rw [HNL.out] at hN'
    have HX7 := Lib.hid hX'
    have HN7 := Lib.hid (show W.heap[N]? = some (.cells #[.int .i64 11] 3 (0, 0)) from hN')
    have HB7 := Lib.hid hB'
    have HK7 := Lib.hid hK
    have c0 := hX'.c0
    have c1 := hX'.c1
    clear hX' hN' hB' hK
    gi_wp2
    refine ⟨trivial, callsIn_wide.2 ((HC1.out _).mono ?_)⟩
    rintro e w8 ⟨rfl, hb8⟩
    have HX8 := Lib.hid (HX7.out.next hb8)
    have HB8 := Lib.hid (HB7.out.trans (hb8.mono HB7.out.size))
    have HN8 := Lib.hid ((hb8.block N (block_lt HN7.out)).trans HN7.out)
    have HK8 := Lib.hid ((hb8.block D' (block_lt HK7.out)).trans HK7.out)
    clear hb8 c0 c1
    have c0 := HX8.out.c0
    have c1 := HX8.out.c1
    gi_wp2
    refine ⟨trivial, callsIn_wide.2 ((HGE.out _).mono ?_)⟩
    rintro e w9 ⟨rfl, hb9⟩
    have HX9 := Lib.hid (HX8.out.next hb9)
    have HB9 := Lib.hid (HB8.out.trans (hb9.mono HB8.out.size))
    have HN9 := Lib.hid ((hb9.block N (block_lt HN8.out)).trans HN8.out)
    have HK9 := Lib.hid ((hb9.block D' (block_lt HK8.out)).trans HK8.out)
    clear hb9 c0 c1
    have c0 := HX9.out.c0
    have c1 := HX9.out.c1
    gi_wp2
    refine ⟨trivial, callsIn_wide.2 ((HHA.out _).mono ?_)⟩
    rintro e w10 ⟨rfl, hb10⟩
    have HX10 := Lib.hid (HX9.out.next hb10)
    have HB10 := Lib.hid (HB9.out.trans (hb10.mono HB9.out.size))
    have HN10 := Lib.hid ((hb10.block N (block_lt HN9.out)).trans HN9.out)
    have HK10 := Lib.hid ((hb10.block D' (block_lt HK9.out)).trans HK9.out)
    clear hb10 c0 c1
    have c0 := HX10.out.c0
    have c1 := HX10.out.c1
    have n0 : w10.cell? ⟨N, 0, none⟩ = some (.int .i64 11) := by rw [Lib.cell_of_heap HN10.out]; rfl
    gi_wp2
    refine ⟨trivial, callsIn_wide.2 ((HC2.out _).mono ?_)⟩
    rintro e w11 ⟨rfl, hb11⟩
    have HB11 := Lib.hid (HB10.out.trans (hb11.mono HB10.out.size))
    have hK11 := (hb11.block D' (block_lt HK10.out)).trans HK10.out
    clear hb11 n0 c0 c1
    gi_wp2
    refine ⟨by simp, .inl ⟨_, _, rfl, run_takeDeferred hK11, ?_⟩⟩
    exact ⟨_, results_tmp rfl _ _ _, rfl, HB11.out.trans (belowK_b (w := w) (Nat.le_refl _) w11 D' _ _ (by omega) hK11 rfl rfl)⟩
  case stop =>
    rintro D' c pre W _ _ h _
    exact h.elim
end Go.Proofs.YtcbjadaghpmejaaDoor

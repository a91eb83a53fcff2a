/- Walks: items of the log (numbers, lists of numbers), both sides. -/
import Derived.Test.YtelhpdlegjgjjaaEncG
import Derived.Test.YtelhpdlegjgjjaaEncE
import Derived.Test.YtelhpdlegjgjjaaRowN
import Derived.Test.YtelhpdlegjgjjaaCln
import Derived.Deep.AppendLies
set_option linter.unusedVariables false
set_option linter.unusedSimpArgs false
namespace Go.Proofs.Ytelhpdlegjgjjaa
open Go.RowKit

theorem SlN.cell {w : World} {A : Option Addr} {n c : Nat} {l : List ByteArray} (h : SlN w A n c l) {j : Nat} {s : ByteArray} (hj : l[j]? = some s) : ∃ b o, A = some ⟨b, o, none⟩ ∧ w.cell? ⟨b, o + j, none⟩ = some (.string s) := by
  have hl := (List.getElem?_eq_some_iff.1 hj).1
  obtain ⟨b, o, rfl⟩ := h.head (by have := h.1; omega)
  exact ⟨b, o, rfl, h.get? j hj⟩
theorem SlN.new (w : World) (l : List ByteArray) (T : TypeId) (hl : l.length ≤ 1000000) : SlN (w.alloc (.cells (l.map Value.string).toArray T)) (some ⟨w.heap.size, 0, none⟩) l.length l.length l := by
  refine ⟨rfl, Nat.le_refl _, by omega, w.heap.size, 0, fun _ => rfl, fun k s hk => ?_⟩
  rw [Lib.cell_of_heap (heap_alloc_new w _)]
  rw [List.getElem?_toArray, List.getElem?_map, Nat.zero_add, hk]
  rfl
theorem SlN.lt {w : World} {a : Addr} {n c : Nat} {l : List ByteArray} (h : SlN w (some a) n c l) (hn : 0 < n) : a.block < w.heap.size := by
  obtain ⟨b, o, e⟩ := h.head hn
  cases e
  obtain ⟨s, hs⟩ : ∃ s, l[0]? = some s := ⟨_, List.getElem?_eq_getElem (by rw [h.1]; exact hn)⟩
  have := h.get? 0 hs
  rcases Nat.lt_or_ge b w.heap.size with h1 | h1
  · exact h1
  · exfalso
    unfold World.cell? at this
    rw [Array.getElem?_eq_none h1] at this
    simp at this
theorem SlN.of_blocks {w w' : World} {A : Option Addr} {n c : Nat} {l : List ByteArray} (h : SlN w A n c l) (hb : 0 < n → ∀ a, A = some a → w'.heap[a.block]? = w.heap[a.block]?) : SlN w' A n c l := by
  obtain ⟨h1, h2, h3, b, o, h4, h5⟩ := h
  refine ⟨h1, h2, h3, b, o, h4, fun k s hk => ?_⟩
  have hl := (List.getElem?_eq_some_iff.1 hk).1
  have := hb (by omega) _ (h4 (by omega))
  have h6 := h5 k s hk
  unfold World.cell? at h6 ⊢
  simp only at this h6 ⊢
  rw [this]
  exact h6
set_option maxHeartbeats 400000 in
theorem enc_NatV (a : ByteArray) (w : World) : Calls Try.prog 21 #[.string a] w (Ret (.agg #[.int .i64 0, .string a, .string ⟨#[]⟩, .slice none 0 0]) w) := by
  go_enter Try.func21, Try.ntmps21
  go_wp2
  exact bodyPost_ret (v := .agg #[.int .i64 0, .string a, .string ⟨#[]⟩, .slice none 0 0]) (by simp [results, Try.results21, go_sem]) rfl ⟨rfl, (Below.refl _ _).alloc (Nat.le_refl _) _⟩
set_option maxHeartbeats 400000 in
theorem enc_TextV (a : ByteArray) (w : World) : Calls Try.prog 25 #[.string a] w (Ret (.agg #[.int .i64 1, .string ⟨#[]⟩, .string a, .slice none 0 0]) w) := by
  go_enter Try.func25, Try.ntmps25
  go_wp2
  exact bodyPost_ret (v := .agg #[.int .i64 1, .string ⟨#[]⟩, .string a, .slice none 0 0]) (by simp [results, Try.results25, go_sem]) rfl ⟨rfl, (Below.refl _ _).alloc (Nat.le_refl _) _⟩
set_option maxHeartbeats 400000 in
theorem r08_NatV (a : ByteArray) (w : World) : Calls Try.prog 28 #[.string a] w (Ret (.agg #[.int .i64 0, .string a, .string ⟨#[]⟩, .slice none 0 0]) w) := by
  go_enter Try.func28, Try.ntmps28
  go_wp2
  exact bodyPost_ret (v := .agg #[.int .i64 0, .string a, .string ⟨#[]⟩, .slice none 0 0]) (by simp [results, Try.results28, go_sem]) rfl ⟨rfl, (Below.refl _ _).alloc (Nat.le_refl _) _⟩
set_option maxHeartbeats 400000 in
theorem r08_TextV (a : ByteArray) (w : World) : Calls Try.prog 32 #[.string a] w (Ret (.agg #[.int .i64 1, .string ⟨#[]⟩, .string a, .slice none 0 0]) w) := by
  go_enter Try.func32, Try.ntmps32
  go_wp2
  exact bodyPost_ret (v := .agg #[.int .i64 1, .string ⟨#[]⟩, .string a, .slice none 0 0]) (by simp [results, Try.results32, go_sem]) rfl ⟨rfl, (Below.refl _ _).alloc (Nat.le_refl _) _⟩
set_option maxHeartbeats 800000 in
theorem ep_number (n : Nat) (w : World) (h : n < 9223372036854775808) : Calls Try.prog 20 #[.int .i64 n] w (Ret (.agg #[.int .i64 0, .string (bstr (encN n)), .string ⟨#[]⟩, .slice none 0 0]) w) := by
  have h1 : (n : Int) % 18446744073709551616 = n := by omega
  have H := Lib.hid h
  clear h
  obtain ⟨W0, hW0⟩ : ∃ W0, w.alloc (.cells #[.int .i64 0, .string ⟨#[]⟩, .string ⟨#[]⟩, .slice none 0 0] 53) = W0 := ⟨_, rfl⟩
  have hres0 : W0.heap[w.heap.size]? = some (.cells #[.int .i64 0, .string ⟨#[]⟩, .string ⟨#[]⟩, .slice none 0 0] 53 (0, 0)) := by rw [← hW0]; exact heap_alloc_new _ _
  have hb0 : Below w.heap.size w W0 := by rw [← hW0]; exact (Below.refl _ _).alloc (Nat.le_refl _) _
  have HW0 := Lib.hid hW0
  have HR0 := Lib.hid hres0
  have HB0 := Lib.hid hb0
  clear hW0 hres0 hb0
  go_enter Try.func20, Try.ntmps20
  go_wp2_with fail
  rw [HW0.out]
  refine (nat_Of n (by have := H.out; omega) _).mono ?_
  rintro e w1 ⟨rfl, hb1⟩
  have HR1 := Lib.hid (block_kept hb1 (Nat.le_refl _) HR0.out)
  have HB1 := Lib.hid (HB0.out.trans (hb1.mono HB0.out.size))
  clear hb1
  go_wp2_with fail
  refine (enc_NatV _ _).mono ?_
  rintro e w2 ⟨rfl, hb2⟩
  have hres := block_kept hb2 (Nat.le_refl _) HR1.out
  have HB2 := Lib.hid (HB1.out.trans (hb2.mono HB1.out.size))
  obtain ⟨rc0, rc1, rc2, rc3⟩ := four_cells hres
  obtain ⟨rf0, rf1, rf2, rf3⟩ := four_free hres
  have HRES := Lib.hid hres
  clear hb2 hres
  go_wp2
  have HE := Lib.hid (four_cells (set4_block HRES.out (.int .i64 0) (.string (bstr (encN n))) (.string ⟨#[]⟩) (.slice none 0 0)))
  have HBE := Lib.hid (set4_below HB2.out (b := w.heap.size) (Nat.le_refl _) (.int .i64 0) (.string (bstr (encN n))) (.string ⟨#[]⟩) (.slice none 0 0))
  unfold set4 at HE HBE
  obtain ⟨wf, hwf⟩ : ∃ wf, (((w2.setCell ⟨w.heap.size, 0, none⟩ (.int .i64 0)).setCell ⟨w.heap.size, 1, none⟩ (.string (bstr (encN n)))).setCell ⟨w.heap.size, 2, none⟩ (.string ⟨#[]⟩)).setCell ⟨w.heap.size, 3, none⟩ (.slice none 0 0) = wf := ⟨_, rfl⟩
  rw [hwf] at HE HBE ⊢
  obtain ⟨q0, q1, q2, q3⟩ := HE.out
  exact bodyPost_ret (v := .agg #[.int .i64 0, .string (bstr (encN n)), .string ⟨#[]⟩, .slice none 0 0]) (by simp [results, Try.results20, go_sem, q0, q1, q2, q3]) rfl ⟨rfl, HBE.out⟩
/-- The item of a number. -/
def natIt (a : ByteArray) : It := .mk 0 a ⟨#[]⟩ []
/-- The cells of a row of such items. -/
def itVals : List ByteArray → List Value
  | [] => []
  | a :: l => [.int .i64 0, .string a, .string ⟨#[]⟩, .slice none 0 0] ++ itVals l
theorem itVals_snoc (l : List ByteArray) (a : ByteArray) : itVals (l ++ [a]) = itVals l ++ [.int .i64 0, .string a, .string ⟨#[]⟩, .slice none 0 0] := by
  induction l with
  | nil => rfl
  | cons b l ih => simp [itVals, ih]
theorem itVals_row (w : World) (ok : Nat → Prop) (l : List ByteArray) : RowV w ok (itVals l) (l.map natIt) := by
  have h : ∀ (k : Nat), RowV w ok (itVals (l.take k)) ((l.take k).map natIt) := by
    intro k
    induction k with
    | zero => exact trivial
    | succ k ih =>
      rw [List.take_add_one]
      cases hk : l[k]? with
      | none => simpa using ih
      | some a =>
        rw [Option.toList_some, itVals_snoc, List.map_append]
        exact RowV.snoc (x := natIt a) (SlAt.nil w ok) _ _ ih
  have := h l.length
  rwa [List.take_length] at this
theorem natIt_nodes (l : List ByteArray) : Its.nodes (l.map natIt) = l.length := by
  induction l with
  | nil => rfl
  | cons a l ih => simp only [List.map_cons, Its.nodes, ih, natIt, It.nodes, List.length_cons]; omega
set_option maxRecDepth 100000 in
set_option maxHeartbeats 4000000 in
theorem ep_list (l : List ByteArray) (A : Option Addr) (len cap : Nat) (w : World) (hs : SlN w A len cap l) (hl : len ≤ 1000000) : Calls Try.prog 26 #[.slice A len cap] w (RetIt (.mk 2 ⟨#[]⟩ ⟨#[]⟩ (l.map natIt)) w) := by
  obtain ⟨W0, hW0⟩ : ∃ W0, w.alloc (.cells #[.int .i64 0, .string ⟨#[]⟩, .string ⟨#[]⟩, .slice none 0 0] 53) = W0 := ⟨_, rfl⟩
  have HR0 := Lib.hid (show W0.heap[w.heap.size]? = some (.cells #[.int .i64 0, .string ⟨#[]⟩, .string ⟨#[]⟩, .slice none 0 0] 53 (0, 0)) from by rw [← hW0]; exact heap_alloc_new _ _)
  have HB0 := Lib.hid (show Below w.heap.size w W0 from by rw [← hW0]; exact (Below.refl _ _).alloc (Nat.le_refl _) _)
  have hsz0 : w.heap.size + 1 = W0.heap.size := by rw [← hW0]; simp
  have HS := Lib.hid (hs.kept HB0.out (Nat.le_refl _))
  have HLEN := Lib.hid hs.1
  have HSZ0 := Lib.hid hsz0
  have hcap := hs.2.1
  have hcap2 := hs.2.2.1
  clear hs hsz0
  go_enter Try.func26, Try.ntmps26
  go_wp2
  try rw [hW0]
  clear hW0
  go_loopw [3, 8] (fun s i wr => ∃ j : Nat, j ≤ len ∧ i = .int .i64 j ∧ wr.ownsRow W0.heap.size 53 4 s j (itVals (l.take j)) ∧ Below W0.heap.size W0 wr) (fun _ i _ => len - (intOf i).toNat)
  case atStart => exact ⟨0, Nat.zero_le _, rfl, World.ownsRow_nil _ _ _ _, Below.refl _ _⟩
  case round =>
    obtain ⟨j, hj, rfl, hown, hbb⟩ := hrel
    have HB := Lib.hid hbb
    have HOWN := Lib.hid hown
    clear hbb hown
    by_cases hlt : j < len
    · obtain ⟨a, he⟩ : ∃ a, l[j]? = some a := ⟨_, List.getElem?_eq_getElem (by rw [HLEN.out]; exact hlt)⟩
      obtain ⟨b, o, rfl, e1⟩ := HS.out.cell he
      have e2 := cell_kept HB.out (Nat.le_refl _) e1
      have HE := Lib.hid he
      clear he e1
      go_wp2_with fail
      refine (enc_NatV a _).mono ?_
      rintro e w1 ⟨rfl, hb1⟩
      have HO1 := Lib.hid ((owns_kept HOWN.out hb1 (Nat.le_refl _)).alloc (.cells #[.int .i64 0, .string a, .string ⟨#[]⟩, .slice none 0 0] 53))
      have HB1 := Lib.hid (HB.out.trans (hb1.mono HB.out.size))
      clear hb1 e2
      obtain ⟨i0, hi, hz0, hz1, hz2⟩ := info_parts item_info
      go_wp2_with (at_builtin; refine wpList_append_lies _ rfl (.tmp 12) (.tmp 15) 51 rfl W0.heap.size 53 i0 _ 4 64 Try.underlying51 hi hz0 hz1 hz2 rfl (by decide) u3 j _ rfl HO1.out ⟨w1.heap.size, 0, none⟩ 1 1 [.int .i64 0, .string a, .string ⟨#[]⟩, .slice none 0 0] rfl rfl (World.news_of_block (heap_alloc_new w1 (.cells #[.int .i64 0, .string a, .string ⟨#[]⟩, .slice none 0 0] 53))) ?hone (by decide) ?h63 ?hby ?hbase _ rfl ?_)
      case hone => intro u hu; simp only [List.mem_cons, List.mem_nil_iff, or_false] at hu; rcases hu with rfl | rfl | rfl | rfl <;> rfl
      case h63 => unfold maxLen; omega
      case hby => omega
      case hbase => have := HB1.out.size; simp; omega
      intro g cap7 w7 hown7 hgrow7 hat7 hlt7
      have HO7 := Lib.hid (show w7.ownsRow W0.heap.size 53 4 (.slice (some ⟨g, 0, none⟩) (j + 1) cap7) (j + 1) (itVals (l.take (j + 1))) from by
        rw [List.take_add_one, HE.out, Option.toList_some, itVals_snoc]
        exact hown7)
      have HB7 := Lib.hid ((HB1.out.alloc HB1.out.size _).grown hgrow7 (by have := HB1.out.size; simp; omega) (fun k hk => (HO1.out.lt k hk).1))
      clear hown7 hgrow7 hat7 hlt7 hi hz0 hz1 hz2
      go_wp2
      go_roundw
      case rel => exact ⟨j + 1, by omega, by go_num, HO7.out, HB7.out⟩
      case measure => simp [intOf]; omega
    · obtain rfl : j = len := by omega
      have hown := HOWN.out
      rw [← HLEN.out, List.take_length, HLEN.out] at hown
      obtain ⟨A2, m2, cap2, rfl⟩ : ∃ A2 m2 cap2, u3 = .slice A2 m2 cap2 := by
        rcases hown.2 with ⟨h, _⟩ | ⟨g, c, _, h, _⟩
        · exact ⟨_, _, _, h⟩
        · exact ⟨_, _, _, h⟩
      obtain ⟨hm2, hsl⟩ := RowV.slice (itVals_row wr (fun _ => True) l) hown (fun _ _ => trivial)
      subst hm2
      have HSL := Lib.hid hsl
      have hnn := natIt_nodes l
      have HN := Lib.hid (show Its.nodes (l.map natIt) ≤ 1000000000000 by rw [hnn, HLEN.out]; omega)
      have HR := Lib.hid (block_kept HB.out (Nat.le_refl _) HR0.out)
      clear hown hsl hlt hj hnn
      go_wp2_with fail
      refine (enc_List (l.map natIt) A2 m2 cap2 _ _ HN.out HSL.out).mono ?_
      rintro e w1 ⟨v1, rfl, ⟨A3, l3, c3, rfl, hs3⟩, hb1⟩
      have hres := block_kept hb1 (Nat.le_refl _) HR.out
      have hwl : w.heap.size < wr.heap.size := block_lt HR.out
      obtain ⟨rf0, rf1, rf2, rf3⟩ := four_free hres
      obtain ⟨rc0, rc1, rc2, rc3⟩ := four_cells hres
      have HBB := Lib.hid (HB0.out.trans ((HB.out.trans (hb1.mono HB.out.size)).mono HB0.out.size))
      have HRES := Lib.hid hres
      have HS3 := Lib.hid hs3
      clear hb1 hres hs3
      go_wp2
      have HE := Lib.hid (four_cells (set4_block HRES.out (.int .i64 2) (.string ⟨#[]⟩) (.string ⟨#[]⟩) (.slice A3 l3 c3)))
      have HK := Lib.hid (HS3.out.keep (w' := set4 w1 (w.heap.size) (.int .i64 2) (.string ⟨#[]⟩) (.string ⟨#[]⟩) (.slice A3 l3 c3)) (fun b hb _ => set4_other _ _ _ _ (by omega)))
      have HBE := Lib.hid (set4_below HBB.out (b := w.heap.size) (Nat.le_refl _) (.int .i64 2) (.string ⟨#[]⟩) (.string ⟨#[]⟩) (.slice A3 l3 c3))
      unfold set4 at HE HK HBE
      simp only [It.kind, It.nat, It.text] at *
      obtain ⟨wf, hwf⟩ : ∃ wf, (((w1.setCell ⟨w.heap.size, 0, none⟩ (.int .i64 2)).setCell ⟨w.heap.size, 1, none⟩ (.string ⟨#[]⟩)).setCell ⟨w.heap.size, 2, none⟩ (.string ⟨#[]⟩)).setCell ⟨w.heap.size, 3, none⟩ (.slice A3 l3 c3) = wf := ⟨_, rfl⟩
      rw [hwf] at HE HK HBE ⊢
      obtain ⟨q0, q1, q2, q3⟩ := HE.out
      exact bodyPost_ret (v := .agg #[.int .i64 2, .string ⟨#[]⟩, .string ⟨#[]⟩, .slice A3 l3 c3]) (by simp [results, Try.results26, go_sem, q0, q1, q2, q3]) rfl ⟨_, rfl, ⟨_, _, _, rfl, HK.out.low (fun b hb => by omega)⟩, HBE.out⟩
/-- The call returned a value that holds the item; its rows lie where the argument's lay, or in new blocks. -/
def RetItK (ok : Nat → Prop) (x : It) (w : World) (e : Ending) (w' : World) : Prop := ∃ v, e = .returned v ∧ ItAt w' (fun b => ok b ∨ w.heap.size ≤ b) v x ∧ Below w.heap.size w w'
set_option maxRecDepth 100000 in
set_option maxHeartbeats 2000000 in
theorem r08_ListK (l : List It) (A : Option Addr) (len cap : Nat) (w : World) (ok : Nat → Prop) (hM : l.length ≤ 1000000000000) (hs : SlAt w ok A len cap l) : Calls Try.prog 31 #[.slice A len cap] w (RetItK ok (.mk 2 ⟨#[]⟩ ⟨#[]⟩ l) w) := by
  have hlen := hs.1
  by_cases h0 : len = 0
  · subst h0
    have hl : l = [] := List.length_eq_zero_iff.1 hlen
    subst hl
    clear hlen hs hM
    cases A with
    | none =>
      go_enter Try.func31, Try.ntmps31
      go_wp2
      exact bodyPost_ret (v := .agg #[.int .i64 2, .string ⟨#[]⟩, .string ⟨#[]⟩, .slice none 0 0]) (by simp [results, Try.results31, go_sem]) rfl ⟨_, rfl, ⟨none, 0, 0, rfl, SlAt.nil _ _⟩, (Below.refl _ _).alloc (Nat.le_refl _) _⟩
    | some ad =>
      have hlc := fun (w : World) => (run_loadCells_list (P := Try.prog) w ad [] (by intro j v hj; simp at hj))
      go_enter Try.func31, Try.ntmps31
      go_wp2
      exact bodyPost_ret (v := .agg #[.int .i64 2, .string ⟨#[]⟩, .string ⟨#[]⟩, .slice none 0 0]) (by simp [results, Try.results31, go_sem]) rfl ⟨_, rfl, ⟨none, 0, 0, rfl, SlAt.nil _ _⟩, (Below.refl _ _).alloc (Nat.le_refl _) _⟩
  · obtain ⟨b, o, rfl⟩ := hs.head (by omega)
    obtain ⟨vs, hrow, hc, ho⟩ : ∃ vs, RowV w ok vs l ∧ (∀ j u, vs[j]? = some u → w.cell? ⟨b, o + j, none⟩ = some u) ∧ ∀ u ∈ vs, u.oneCell' = true := by
      obtain ⟨h1, h2, h3, b', o', h4, h5⟩ := hs
      have := (h4 (by omega)).1
      simp only [Option.some.injEq, Addr.mk.injEq, and_true] at this
      obtain ⟨rfl, rfl⟩ := this
      exact RowAt.vals l b o h5
    obtain ⟨i0, hi, hz0, hz1, hz2⟩ := info_parts item_info
    have hvl := hrow.length
    have hlb : len ≤ 1000000000000 := by omega
    have HLEN := Lib.hid hlen
    have HS := Lib.hid hs
    have HROW := Lib.hid hrow
    have HC := Lib.hid hc
    have HO := Lib.hid ho
    have HVL := Lib.hid hvl
    clear hlen hs hrow hc ho hvl
    have hpos : 0 < len := by omega
    clear h0
    have hnews : ∀ w' : World, Below w.heap.size w w' → ∀ j u, vs[j]? = some u → w'.cell? ((⟨b, o, none⟩ : Addr).add j) = some u := fun w' hb j u hj => by
      have e : (⟨b, o, none⟩ : Addr).add j = ⟨b, o + j, none⟩ := by unfold Addr.add; split <;> simp_all
      rw [e]
      exact cell_kept hb (Nat.le_refl _) (HC.out j u hj)
    have HNEWS := Lib.hid hnews
    clear hnews
    go_enter Try.func31, Try.ntmps31
    go_wp2_with (at_builtin; refine wpList_append_lies _ rfl (.tmp 4) (.tmp 5) 51 rfl (w.heap.size + 1) 53 i0 _ 4 64 Try.underlying51 hi hz0 hz1 hz2 rfl (by decide) _ 0 [] rfl (World.ownsRow_nil _ _ _ _) ⟨b, o, none⟩ len cap vs rfl ?h1 ?h2 HO.out hpos ?h4 ?h5 ?h6 _ rfl ?_)
    case h1 => have := HVL.out; have := HLEN.out; omega
    case h2 => exact HNEWS.out _ ((Below.refl _ _).alloc (Nat.le_refl _) _)
    case h4 => unfold maxLen; omega
    case h5 => omega
    case h6 => simp
    intro g cap7 w7 hown7 hgrow7 hat7 hlt7
    have hb7 : Below w.heap.size w w7 := ((Below.refl _ _).alloc (Nat.le_refl _) _).grown hgrow7 (by simp) (fun k e => by cases e)
    have hres : w7.heap[w.heap.size]? = some (.cells #[.int .i64 0, .string ⟨#[]⟩, .string ⟨#[]⟩, .slice none 0 0] 53 (0, 0)) := by
      rw [hgrow7.block _ (by simp) (fun e => by cases e)]
      exact heap_alloc_new _ _
    have hfin : SlAt w7 (fun b => (ok b ∧ b < w.heap.size) ∨ w.heap.size + 1 ≤ b) (some ⟨g, 0, none⟩) len cap7 l := by
      refine (RowV.slice (vs := vs) (RowV.low (ok' := fun b => (ok b ∧ b < w.heap.size) ∨ w.heap.size + 1 ≤ b) (fun b h => .inl h) _ _ (RowV.keep (fun b h _ => ?_) _ _ (RowV.bound _ _ HROW.out))) hown7 (fun g' e => ?_)).2
      · exact hb7.block b h.2
      · exact .inr (hown7.lt _ e).1
    obtain ⟨rc0, rc1, rc2, rc3⟩ := four_cells hres
    obtain ⟨rf0, rf1, rf2, rf3⟩ := four_free hres
    have HB7 := Lib.hid hb7
    have HRES := Lib.hid hres
    have HFIN := Lib.hid hfin
    clear hb7 hres hfin hown7 hgrow7 hat7 hlt7
    go_wp2
    have HE := Lib.hid (four_cells (set4_block HRES.out (.int .i64 2) (.string ⟨#[]⟩) (.string ⟨#[]⟩) (.slice (some ⟨g, 0, none⟩) len cap7)))
    have HK := Lib.hid (HFIN.out.keep (w' := set4 w7 w.heap.size (.int .i64 2) (.string ⟨#[]⟩) (.string ⟨#[]⟩) (.slice (some ⟨g, 0, none⟩) len cap7)) (fun b hb _ => set4_other _ _ _ _ (by rcases hb with h | h <;> omega)))
    have HBE := Lib.hid (set4_below (B := w.heap.size) HB7.out (b := w.heap.size) (Nat.le_refl _) (.int .i64 2) (.string ⟨#[]⟩) (.string ⟨#[]⟩) (.slice (some ⟨g, 0, none⟩) len cap7))
    unfold set4 at HE HK HBE
    obtain ⟨wf, hwf⟩ : ∃ wf, (((w7.setCell ⟨w.heap.size, 0, none⟩ (.int .i64 2)).setCell ⟨w.heap.size, 1, none⟩ (.string ⟨#[]⟩)).setCell ⟨w.heap.size, 2, none⟩ (.string ⟨#[]⟩)).setCell ⟨w.heap.size, 3, none⟩ (.slice (some ⟨g, 0, none⟩) len cap7) = wf := ⟨_, rfl⟩
    rw [hwf] at HE HK HBE ⊢
    obtain ⟨q0, q1, q2, q3⟩ := HE.out
    exact bodyPost_ret (v := .agg #[.int .i64 2, .string ⟨#[]⟩, .string ⟨#[]⟩, .slice (some ⟨g, 0, none⟩) len cap7]) (by simp [results, Try.results31, go_sem, q0, q1, q2, q3]) rfl ⟨_, rfl, ⟨_, _, _, rfl, HK.out.low (fun b hb => hb.elim (fun h => .inl h.1) (fun h => .inr (by omega)))⟩, HBE.out⟩
set_option maxRecDepth 100000 in
set_option maxHeartbeats 4000000 in
theorem r37_items (l : List ByteArray) (A : Option Addr) (len cap : Nat) (w : World) (hs : SlN w A len cap l) (hl : len ≤ 1000000) : Calls Try.prog 33 #[.slice A len cap] w (RetIt (.mk 2 ⟨#[]⟩ ⟨#[]⟩ (l.map natIt)) w) := by
  obtain ⟨W0, hW0⟩ : ∃ W0, w.alloc (.cells #[.int .i64 0, .string ⟨#[]⟩, .string ⟨#[]⟩, .slice none 0 0] 53) = W0 := ⟨_, rfl⟩
  have HR0 := Lib.hid (show W0.heap[w.heap.size]? = some (.cells #[.int .i64 0, .string ⟨#[]⟩, .string ⟨#[]⟩, .slice none 0 0] 53 (0, 0)) from by rw [← hW0]; exact heap_alloc_new _ _)
  have HB0 := Lib.hid (show Below w.heap.size w W0 from by rw [← hW0]; exact (Below.refl _ _).alloc (Nat.le_refl _) _)
  have hsz0 : w.heap.size + 1 = W0.heap.size := by rw [← hW0]; simp
  have HS := Lib.hid (hs.kept HB0.out (Nat.le_refl _))
  have HLEN := Lib.hid hs.1
  have HSZ0 := Lib.hid hsz0
  have hcap := hs.2.1
  have hcap2 := hs.2.2.1
  clear hs hsz0
  go_enter Try.func33, Try.ntmps33
  go_wp2
  try rw [hW0]
  clear hW0
  go_loopw [3, 4] (fun s i wr => ∃ j : Nat, j ≤ len ∧ i = .int .i64 j ∧ wr.ownsRow W0.heap.size 53 4 s j (itVals (l.take j)) ∧ Below W0.heap.size W0 wr) (fun _ i _ => len - (intOf i).toNat)
  case atStart => exact ⟨0, Nat.zero_le _, rfl, World.ownsRow_nil _ _ _ _, Below.refl _ _⟩
  case round =>
    obtain ⟨j, hj, rfl, hown, hbb⟩ := hrel
    have HB := Lib.hid hbb
    have HOWN := Lib.hid hown
    clear hbb hown
    by_cases hlt : j < len
    · obtain ⟨a, he⟩ : ∃ a, l[j]? = some a := ⟨_, List.getElem?_eq_getElem (by rw [HLEN.out]; exact hlt)⟩
      obtain ⟨b, o, rfl, e1⟩ := HS.out.cell he
      have e2 := cell_kept HB.out (Nat.le_refl _) e1
      have HE := Lib.hid he
      clear he e1
      go_wp2_with fail
      refine (r08_NatV a _).mono ?_
      rintro e w1 ⟨rfl, hb1⟩
      have HO1 := Lib.hid ((owns_kept HOWN.out hb1 (Nat.le_refl _)).alloc (.cells #[.int .i64 0, .string a, .string ⟨#[]⟩, .slice none 0 0] 53))
      have HB1 := Lib.hid (HB.out.trans (hb1.mono HB.out.size))
      clear hb1 e2
      obtain ⟨i0, hi, hz0, hz1, hz2⟩ := info_parts item_info
      go_wp2_with (at_builtin; refine wpList_append_lies _ rfl (.tmp 11) (.tmp 17) 51 rfl W0.heap.size 53 i0 _ 4 64 Try.underlying51 hi hz0 hz1 hz2 rfl (by decide) u3 j _ rfl HO1.out ⟨w1.heap.size, 0, none⟩ 1 1 [.int .i64 0, .string a, .string ⟨#[]⟩, .slice none 0 0] rfl rfl (World.news_of_block (heap_alloc_new w1 (.cells #[.int .i64 0, .string a, .string ⟨#[]⟩, .slice none 0 0] 53))) ?hone (by decide) ?h63 ?hby ?hbase _ rfl ?_)
      case hone => intro u hu; simp only [List.mem_cons, List.mem_nil_iff, or_false] at hu; rcases hu with rfl | rfl | rfl | rfl <;> rfl
      case h63 => unfold maxLen; omega
      case hby => omega
      case hbase => have := HB1.out.size; simp; omega
      intro g cap7 w7 hown7 hgrow7 hat7 hlt7
      have HO7 := Lib.hid (show w7.ownsRow W0.heap.size 53 4 (.slice (some ⟨g, 0, none⟩) (j + 1) cap7) (j + 1) (itVals (l.take (j + 1))) from by
        rw [List.take_add_one, HE.out, Option.toList_some, itVals_snoc]
        exact hown7)
      have HB7 := Lib.hid ((HB1.out.alloc HB1.out.size _).grown hgrow7 (by have := HB1.out.size; simp; omega) (fun k hk => (HO1.out.lt k hk).1))
      clear hown7 hgrow7 hat7 hlt7 hi hz0 hz1 hz2
      go_wp2
      go_roundw
      case rel => exact ⟨j + 1, by omega, by go_num, HO7.out, HB7.out⟩
      case measure => simp [intOf]; omega
    · obtain rfl : j = len := by omega
      have hown := HOWN.out
      rw [← HLEN.out, List.take_length, HLEN.out] at hown
      obtain ⟨A2, m2, cap2, rfl⟩ : ∃ A2 m2 cap2, u3 = .slice A2 m2 cap2 := by
        rcases hown.2 with ⟨h, _⟩ | ⟨g, c, _, h, _⟩
        · exact ⟨_, _, _, h⟩
        · exact ⟨_, _, _, h⟩
      obtain ⟨hm2, hsl⟩ := RowV.slice (itVals_row wr (fun b => W0.heap.size ≤ b) l) hown (fun g e => (hown.lt _ e).1)
      subst hm2
      have HSL := Lib.hid hsl
      have HN := Lib.hid (show (l.map natIt).length ≤ 1000000000000 by rw [List.length_map, HLEN.out]; omega)
      have HR := Lib.hid (block_kept HB.out (Nat.le_refl _) HR0.out)
      clear hown hsl hlt hj
      go_wp2_with fail
      refine (r08_ListK (l.map natIt) A2 m2 cap2 _ _ HN.out HSL.out).mono ?_
      rintro e w1 ⟨v1, rfl, ⟨A3, l3, c3, rfl, hs3⟩, hb1⟩
      have hs3 := hs3.low (ok' := fun b => W0.heap.size ≤ b) (fun b hb => hb.elim id (fun h => Nat.le_trans HB.out.size h))
      have hres := block_kept hb1 (Nat.le_refl _) HR.out
      have hwl : w.heap.size < wr.heap.size := block_lt HR.out
      obtain ⟨rf0, rf1, rf2, rf3⟩ := four_free hres
      obtain ⟨rc0, rc1, rc2, rc3⟩ := four_cells hres
      have HBB := Lib.hid (HB0.out.trans ((HB.out.trans (hb1.mono HB.out.size)).mono HB0.out.size))
      have HRES := Lib.hid hres
      have HS3 := Lib.hid hs3
      clear hb1 hres hs3
      go_wp2
      have HE := Lib.hid (four_cells (set4_block HRES.out (.int .i64 2) (.string ⟨#[]⟩) (.string ⟨#[]⟩) (.slice A3 l3 c3)))
      have HK := Lib.hid (HS3.out.keep (w' := set4 w1 (w.heap.size) (.int .i64 2) (.string ⟨#[]⟩) (.string ⟨#[]⟩) (.slice A3 l3 c3)) (fun b hb _ => set4_other _ _ _ _ (by have := HSZ0.out; omega)))
      have HBE := Lib.hid (set4_below HBB.out (b := w.heap.size) (Nat.le_refl _) (.int .i64 2) (.string ⟨#[]⟩) (.string ⟨#[]⟩) (.slice A3 l3 c3))
      unfold set4 at HE HK HBE
      simp only [It.kind, It.nat, It.text] at *
      obtain ⟨wf, hwf⟩ : ∃ wf, (((w1.setCell ⟨w.heap.size, 0, none⟩ (.int .i64 2)).setCell ⟨w.heap.size, 1, none⟩ (.string ⟨#[]⟩)).setCell ⟨w.heap.size, 2, none⟩ (.string ⟨#[]⟩)).setCell ⟨w.heap.size, 3, none⟩ (.slice A3 l3 c3) = wf := ⟨_, rfl⟩
      rw [hwf] at HE HK HBE ⊢
      obtain ⟨q0, q1, q2, q3⟩ := HE.out
      exact bodyPost_ret (v := .agg #[.int .i64 2, .string ⟨#[]⟩, .string ⟨#[]⟩, .slice A3 l3 c3]) (by simp [results, Try.results33, go_sem, q0, q1, q2, q3]) rfl ⟨_, rfl, ⟨_, _, _, rfl, HK.out.low (fun b hb => by have := HSZ0.out; omega)⟩, HBE.out⟩
end Go.Proofs.Ytelhpdlegjgjjaa

import Derived.Test.YtkfgdcgmlobhfaaGreatQBit
import Derived.Lib.SliceRun
import Derived.Test.YtkfgdcgmlobhfaaGreatQEncG
import Derived.Deep.AppendLies
import Derived.Test.YtkfgdcgmlobhfaaGreatQOrd
import Derived.Test.YtkfgdcgmlobhfaaGreatQGsa
import Derived.Shelf.Spec.SlicesGrow
import Derived.Shelf.SlIter.Collect
import Derived.Ground.Names8Prog
import Derived.Ground.GgzProg
import Derived.Test.YtkfgdcgmlobhfaaGreatProg
set_option linter.unusedVariables false
set_option linter.unusedSimpArgs false
namespace Go.Proofs.YtkfgdcgmlobhfaaGreat
set_option maxRecDepth 100000
set_option maxHeartbeats 1000000
open Go.RowKit
theorem cl_nats (l : List ByteArray) (A : Option Addr) (len cap : Nat) (w : World) (hs : SlN w A len cap l) (hlb : len ≤ 1000000000000) : Calls Tryz.prog 14 #[.slice A len cap] w (zm9 22 1 len (l.map Value.string) w) := by
 have hee := fun (w : World) (a : Option Addr) (n c : Nat) => Lib.run_eql_slice_nil (P := Tryz.prog) w 25 22 a n c 0 0 Tryz.underlying25
 cases A with
 | none =>
  have h0 : len = 0 := by
   rcases Nat.eq_zero_or_pos len with h | h
   · exact h
   · obtain ⟨b, o, e⟩ := hs.head h; cases e
  subst h0;have hl : l = [] := List.length_eq_zero_iff.1 hs.1;subst hl;clear hs;go_enter Tryz.func14, Tryz.ntmps14;go_wp2;go_ret;exact ⟨_, rfl, World.ownsRow_nil _ _ _ _, Below.refl _ _⟩
 | some ad =>
  have hcells := hs.cells;have HC := Hq hcells;have HV := Hq (show (l.map Value.string).length = len * 1 from by rw [List.length_map, hs.1, Nat.mul_one]);have HO := Hq (zb0 l);obtain ⟨i0, hi, hz0, hz1, hz2⟩ := info_parts kg;clear hs hcells;go_enter Tryz.func14, Tryz.ntmps14;go_wp2_with (at_builtin; refine wpList_append_own _ rfl (.tmp 5) (.tmp 6) 25 rfl w.heap.size 22 i0 _ 1 16 Tryz.underlying25 hi hz0 hz1 hz2 rfl (by decide) _ 0 [] rfl (World.ownsRow_made w _ _ (Nat.le_refl _) ?h0 ?h9) ad len cap (l.map Value.string) rfl ?h1 ?h2 HO.out ?h4 ?h5 ?h6 ?_);case h0 => unfold maxLen; omega
  case h9 => rfl
  case h1 => exact HV.out
  case h2 => exact fun j u hj => cell_kept (w := w) ((Below.refl _ _).alloc (Nat.le_refl _) _) (Nat.le_refl _) (HC.out j u hj)
  case h4 => unfold maxLen; omega
  case h5 => omega
  case h6 => simp
  intro v' w' hown hgrow _;have hb : Below w.heap.size w w' := ((Below.refl _ _).alloc (Nat.le_refl _) _).grown hgrow (by simp) (fun k e => by simp only [Value.ownBlock, Option.some.injEq] at e; omega);have HOWN := Hq hown;have HB := Hq hb;clear hown hgrow hb;go_wp2;go_ret;exact ⟨_, rfl, HOWN.out, HB.out⟩
set_option maxRecDepth 100000
set_option maxHeartbeats 4000000
open Go.RowKit
theorem SlN.cell {w : World} {A : Option Addr} {n c : Nat} {l : List ByteArray} (h : SlN w A n c l) {j : Nat} {s : ByteArray} (hj : l[j]? = some s) : ∃ b o, A = some ⟨b, o, none⟩ ∧ w.cell? ⟨b, o + j, none⟩ = some (.string s) := by
 have hl := (List.getElem?_eq_some_iff.1 hj).1;obtain ⟨b, o, rfl⟩ := h.head (by have := h.1; omega);exact ⟨b, o, rfl, h.get? j hj⟩
theorem SlN.new (w : World) (l : List ByteArray) (T : TypeId) (hl : l.length ≤ 1000000) : SlN (w.alloc (.cells (l.map Value.string).toArray T)) (some ⟨w.heap.size, 0, none⟩) l.length l.length l := by
 refine ⟨rfl, Nat.le_refl _, by omega, w.heap.size, 0, fun _ => rfl, fun k s hk => ?_⟩;rw [Lib.cell_of_heap (heap_alloc_new w _)];rw [List.getElem?_toArray, List.getElem?_map, Nat.zero_add, hk];rfl
theorem SlN.lt {w : World} {a : Addr} {n c : Nat} {l : List ByteArray} (h : SlN w (some a) n c l) (hn : 0 < n) : a.block < w.heap.size := by
 obtain ⟨b, o, e⟩ := h.head hn;cases e;obtain ⟨s, hs⟩ : ∃ s, l[0]? = some s := ⟨_, List.getElem?_eq_getElem (by rw [h.1]; exact hn)⟩;have := h.get? 0 hs;rcases Nat.lt_or_ge b w.heap.size with h1 | h1
 · exact h1
 · exfalso;unfold World.cell? at this;rw [Array.getElem?_eq_none h1] at this;simp at this
theorem SlN.of_blocks {w w' : World} {A : Option Addr} {n c : Nat} {l : List ByteArray} (h : SlN w A n c l) (hb : 0 < n → ∀ a, A = some a → w'.heap[a.block]? = w.heap[a.block]?) : SlN w' A n c l := by
 obtain ⟨h1, h2, h3, b, o, h4, h5⟩ := h;refine ⟨h1, h2, h3, b, o, h4, fun k s hk => ?_⟩;have hl := (List.getElem?_eq_some_iff.1 hk).1;have := hb (by omega) _ (h4 (by omega));have h6 := h5 k s hk;unfold World.cell? at h6 ⊢;simp only at this h6 ⊢;rw [this];exact h6
theorem enc_NatV (a : ByteArray) (w : World) : Calls Tryz.prog 38 #[.string a] w (Ret (.agg #[.int .i64 0, .string a, .string ⟨#[]⟩, .slice none 0 0]) w) := by
 go_enter Tryz.func38, Tryz.ntmps38;go_wp2;exact bodyPost_ret (v := .agg #[.int .i64 0, .string a, .string ⟨#[]⟩, .slice none 0 0]) (by simp [results, Tryz.results38, go_sem]) rfl ⟨rfl, (Below.refl _ _).alloc (Nat.le_refl _) _⟩
theorem enc_TextV (a : ByteArray) (w : World) : Calls Tryz.prog 42 #[.string a] w (Ret (.agg #[.int .i64 1, .string ⟨#[]⟩, .string a, .slice none 0 0]) w) := by
 go_enter Tryz.func42, Tryz.ntmps42;go_wp2;exact bodyPost_ret (v := .agg #[.int .i64 1, .string ⟨#[]⟩, .string a, .slice none 0 0]) (by simp [results, Tryz.results42, go_sem]) rfl ⟨rfl, (Below.refl _ _).alloc (Nat.le_refl _) _⟩
theorem r08_NatV (a : ByteArray) (w : World) : Calls Tryz.prog 65 #[.string a] w (Ret (.agg #[.int .i64 0, .string a, .string ⟨#[]⟩, .slice none 0 0]) w) := by
 go_enter Tryz.func65, Tryz.ntmps65;go_wp2;exact bodyPost_ret (v := .agg #[.int .i64 0, .string a, .string ⟨#[]⟩, .slice none 0 0]) (by simp [results, Tryz.results65, go_sem]) rfl ⟨rfl, (Below.refl _ _).alloc (Nat.le_refl _) _⟩
theorem r08_TextV (a : ByteArray) (w : World) : Calls Tryz.prog 69 #[.string a] w (Ret (.agg #[.int .i64 1, .string ⟨#[]⟩, .string a, .slice none 0 0]) w) := by
 go_enter Tryz.func69, Tryz.ntmps69;go_wp2;exact bodyPost_ret (v := .agg #[.int .i64 1, .string ⟨#[]⟩, .string a, .slice none 0 0]) (by simp [results, Tryz.results69, go_sem]) rfl ⟨rfl, (Below.refl _ _).alloc (Nat.le_refl _) _⟩
theorem ep_number (n : Nat) (w : World) (h : n < 9223372036854775808) : Calls Tryz.prog 37 #[.int .i64 n] w (Ret (.agg #[.int .i64 0, .string (bstr (encN n)), .string ⟨#[]⟩, .slice none 0 0]) w) := by
 have h1 : (n : Int) % 18446744073709551616 = n := by omega
 have H := Hq h;clear h;obtain ⟨W0, hW0⟩ : ∃ W0, w.alloc (.cells #[.int .i64 0, .string ⟨#[]⟩, .string ⟨#[]⟩, .slice none 0 0] 94) = W0 := ⟨_, rfl⟩;have hres0 : W0.heap[w.heap.size]? = some (.cells #[.int .i64 0, .string ⟨#[]⟩, .string ⟨#[]⟩, .slice none 0 0] 94 (0, 0)) := by rw [← hW0]; exact heap_alloc_new _ _
 have hb0 : Below w.heap.size w W0 := by rw [← hW0]; exact (Below.refl _ _).alloc (Nat.le_refl _) _
 have HW0 := Hq hW0;have HR0 := Hq hres0;have HB0 := Hq hb0;clear hW0 hres0 hb0;go_enter Tryz.func37, Tryz.ntmps37;go_wp2_with fail;rw [HW0.out];refine (qe n (by have := H.out; omega) _).mono ?_;rintro e w1 ⟨rfl, hb1⟩;have HR1 := Hq (jc hb1 (Nat.le_refl _) HR0.out);have HB1 := Hq (HB0.out.trans (hb1.mono HB0.out.size));clear hb1;go_wp2_with fail;refine (enc_NatV _ _).mono ?_;rintro e w2 ⟨rfl, hb2⟩;have hres := jc hb2 (Nat.le_refl _) HR1.out;have HB2 := Hq (HB1.out.trans (hb2.mono HB1.out.size));obtain ⟨rc0, rc1, rc2, rc3⟩ := zx hres;obtain ⟨rf0, rf1, rf2, rf3⟩ := zab hres;have HRES := Hq hres;clear hb2 hres;go_wp2;have HE := Hq (zx (kv HRES.out (.int .i64 0) (.string (bstr (encN n))) (.string ⟨#[]⟩) (.slice none 0 0)));have HBE := Hq (kw HB2.out (b := w.heap.size) (Nat.le_refl _) (.int .i64 0) (.string (bstr (encN n))) (.string ⟨#[]⟩) (.slice none 0 0));unfold set4 at HE HBE;obtain ⟨wf, hwf⟩ : ∃ wf, (((w2.setCell ⟨w.heap.size, 0, none⟩ (.int .i64 0)).setCell ⟨w.heap.size, 1, none⟩ (.string (bstr (encN n)))).setCell ⟨w.heap.size, 2, none⟩ (.string ⟨#[]⟩)).setCell ⟨w.heap.size, 3, none⟩ (.slice none 0 0) = wf := ⟨_, rfl⟩;rw [hwf] at HE HBE ⊢;obtain ⟨q0, q1, q2, q3⟩ := HE.out;exact bodyPost_ret (v := .agg #[.int .i64 0, .string (bstr (encN n)), .string ⟨#[]⟩, .slice none 0 0]) (by simp [results, Tryz.results37, go_sem, q0, q1, q2, q3]) rfl ⟨rfl, HBE.out⟩
def natIt (a : ByteArray) : It := .mk 0 a ⟨#[]⟩ []
def itVals : List ByteArray → List Value
 | [] => []
 | a :: l => [.int .i64 0, .string a, .string ⟨#[]⟩, .slice none 0 0] ++ itVals l
theorem itVals_snoc (l : List ByteArray) (a : ByteArray) : itVals (l ++ [a]) = itVals l ++ [.int .i64 0, .string a, .string ⟨#[]⟩, .slice none 0 0] := by
 induction l with
 | nil => rfl
 | cons b l ih => simp [itVals, ih]
theorem itVals_row (w : World) (ok : Nat → Prop) (l : List ByteArray) : RowV w ok (itVals l) (l.map natIt) := by
 have h : ∀ (k : Nat), RowV w ok (itVals (l.take k)) ((l.take k).map natIt) := by
  intro k
  induction k with
  | zero => exact trivial
  | succ k ih =>
   rw [List.take_add_one]
   cases hk : l[k]? with
   | none => simpa using ih
   | some a =>
    rw [Option.toList_some, itVals_snoc, List.map_append];exact RowV.snoc (x := natIt a) (SlAt.nil w ok) _ _ ih
 have := h l.length;rwa [List.take_length] at this
theorem natIt_nodes (l : List ByteArray) : Its.nodes (l.map natIt) = l.length := by
 induction l with
 | nil => rfl
 | cons a l ih => simp only [List.map_cons, Its.nodes, ih, natIt, It.nodes, List.length_cons]; omega
theorem ep_list (l : List ByteArray) (A : Option Addr) (len cap : Nat) (w : World) (hs : SlN w A len cap l) (hl : len ≤ 1000000) : Calls Tryz.prog 43 #[.slice A len cap] w (zoy (.mk 2 ⟨#[]⟩ ⟨#[]⟩ (l.map natIt)) w) := by
 obtain ⟨W0, hW0⟩ : ∃ W0, w.alloc (.cells #[.int .i64 0, .string ⟨#[]⟩, .string ⟨#[]⟩, .slice none 0 0] 94) = W0 := ⟨_, rfl⟩;have HR0 := Hq (show W0.heap[w.heap.size]? = some (.cells #[.int .i64 0, .string ⟨#[]⟩, .string ⟨#[]⟩, .slice none 0 0] 94 (0, 0)) from by rw [← hW0]; exact heap_alloc_new _ _);have HB0 := Hq (show Below w.heap.size w W0 from by rw [← hW0]; exact (Below.refl _ _).alloc (Nat.le_refl _) _);have hsz0 : w.heap.size + 1 = W0.heap.size := by rw [← hW0]; simp
 have HS := Hq (hs.kept HB0.out (Nat.le_refl _));have HLEN := Hq hs.1;have HSZ0 := Hq hsz0;have hcap := hs.2.1;have hcap2 := hs.2.2.1;clear hs hsz0;go_enter Tryz.func43, Tryz.ntmps43;go_wp2;try rw [hW0]
 clear hW0;go_loopw [3, 8] (fun s i wr => ∃ j : Nat, j ≤ len ∧ i = .int .i64 j ∧ wr.ownsRow W0.heap.size 94 4 s j (itVals (l.take j)) ∧ Below W0.heap.size W0 wr) (fun _ i _ => len - (intOf i).toNat);case atStart => exact ⟨0, Nat.zero_le _, rfl, World.ownsRow_nil _ _ _ _, Below.refl _ _⟩
 case round =>
  obtain ⟨j, hj, rfl, hown, hbb⟩ := hrel;have HB := Hq hbb;have HOWN := Hq hown;clear hbb hown;by_cases hlt : j < len
  · obtain ⟨a, he⟩ : ∃ a, l[j]? = some a := ⟨_, List.getElem?_eq_getElem (by rw [HLEN.out]; exact hlt)⟩;obtain ⟨b, o, rfl, e1⟩ := HS.out.cell he;have e2 := cell_kept HB.out (Nat.le_refl _) e1;have HE := Hq he;clear he e1;go_wp2_with fail;refine (enc_NatV a _).mono ?_;rintro e w1 ⟨rfl, hb1⟩;have HO1 := Hq ((jy HOWN.out hb1 (Nat.le_refl _)).alloc (.cells #[.int .i64 0, .string a, .string ⟨#[]⟩, .slice none 0 0] 94));have HB1 := Hq (HB.out.trans (hb1.mono HB.out.size));clear hb1 e2;obtain ⟨i0, hi, hz0, hz1, hz2⟩ := info_parts za0;go_wp2_with (at_builtin; refine wpList_append_lies _ rfl (.tmp 12) (.tmp 15) 92 rfl W0.heap.size 94 i0 _ 4 64 Tryz.underlying92 hi hz0 hz1 hz2 rfl (by decide) u3 j _ rfl HO1.out ⟨w1.heap.size, 0, none⟩ 1 1 [.int .i64 0, .string a, .string ⟨#[]⟩, .slice none 0 0] rfl rfl (World.news_of_block (heap_alloc_new w1 (.cells #[.int .i64 0, .string a, .string ⟨#[]⟩, .slice none 0 0] 94))) ?hone (by decide) ?h63 ?hby ?hbase _ rfl ?_);case hone => intro u hu; simp only [List.mem_cons, List.mem_nil_iff, or_false] at hu; rcases hu with rfl | rfl | rfl | rfl <;> rfl
    case h63 => unfold maxLen; omega
    case hby => omega
    case hbase => have := HB1.out.size; simp; omega
    intro g cap7 w7 hown7 hgrow7 hat7 hlt7;have HO7 := Hq (show w7.ownsRow W0.heap.size 94 4 (.slice (some ⟨g, 0, none⟩) (j + 1) cap7) (j + 1) (itVals (l.take (j + 1))) from by
     rw [List.take_add_one, HE.out, Option.toList_some, itVals_snoc]
     exact hown7)
    have HB7 := Hq ((HB1.out.alloc HB1.out.size _).grown hgrow7 (by have := HB1.out.size; simp; omega) (fun k hk => (HO1.out.lt k hk).1));clear hown7 hgrow7 hat7 hlt7 hi hz0 hz1 hz2;go_wp2;go_roundw;case rel => exact ⟨j + 1, by omega, by go_num, HO7.out, HB7.out⟩
    case measure => simp [intOf]; omega
  · obtain rfl : j = len := by omega
    have hown := HOWN.out;rw [← HLEN.out, List.take_length, HLEN.out] at hown;obtain ⟨A2, m2, cap2, rfl⟩ : ∃ A2 m2 cap2, u3 = .slice A2 m2 cap2 := by
     rcases hown.2 with ⟨h, _⟩ | ⟨g, c, _, h, _⟩
     · exact ⟨_, _, _, h⟩
     · exact ⟨_, _, _, h⟩
    obtain ⟨hm2, hsl⟩ := RowV.slice (itVals_row wr (fun _ => True) l) hown (fun _ _ => trivial);subst hm2;have HSL := Hq hsl;have hnn := natIt_nodes l;have HN := Hq (show Its.nodes (l.map natIt) ≤ 1000000000000 by rw [hnn, HLEN.out]; omega);have HR := Hq (jc HB.out (Nat.le_refl _) HR0.out);clear hown hsl hlt hj hnn;go_wp2_with fail;refine (zjq (l.map natIt) A2 m2 cap2 _ _ HN.out HSL.out).mono ?_;rintro e w1 ⟨v1, rfl, ⟨A3, l3, c3, rfl, hs3⟩, hb1⟩;have hres := jc hb1 (Nat.le_refl _) HR.out;have hwl : w.heap.size < wr.heap.size := zw HR.out;obtain ⟨rf0, rf1, rf2, rf3⟩ := zab hres;obtain ⟨rc0, rc1, rc2, rc3⟩ := zx hres;have HBB := Hq (HB0.out.trans ((HB.out.trans (hb1.mono HB.out.size)).mono HB0.out.size));have HRES := Hq hres;have HS3 := Hq hs3;clear hb1 hres hs3;go_wp2;have HE := Hq (zx (kv HRES.out (.int .i64 2) (.string ⟨#[]⟩) (.string ⟨#[]⟩) (.slice A3 l3 c3)));have HK := Hq (HS3.out.keep (w' := set4 w1 (w.heap.size) (.int .i64 2) (.string ⟨#[]⟩) (.string ⟨#[]⟩) (.slice A3 l3 c3)) (fun b hb _ => qx _ _ _ _ (by omega)));have HBE := Hq (kw HBB.out (b := w.heap.size) (Nat.le_refl _) (.int .i64 2) (.string ⟨#[]⟩) (.string ⟨#[]⟩) (.slice A3 l3 c3));unfold set4 at HE HK HBE;simp only [It.kind, It.nat, It.text] at *;obtain ⟨wf, hwf⟩ : ∃ wf, (((w1.setCell ⟨w.heap.size, 0, none⟩ (.int .i64 2)).setCell ⟨w.heap.size, 1, none⟩ (.string ⟨#[]⟩)).setCell ⟨w.heap.size, 2, none⟩ (.string ⟨#[]⟩)).setCell ⟨w.heap.size, 3, none⟩ (.slice A3 l3 c3) = wf := ⟨_, rfl⟩;rw [hwf] at HE HK HBE ⊢;obtain ⟨q0, q1, q2, q3⟩ := HE.out;exact bodyPost_ret (v := .agg #[.int .i64 2, .string ⟨#[]⟩, .string ⟨#[]⟩, .slice A3 l3 c3]) (by simp [results, Tryz.results43, go_sem, q0, q1, q2, q3]) rfl ⟨_, rfl, ⟨_, _, _, rfl, HK.out.low (fun b hb => by omega)⟩, HBE.out⟩
def RetItK (ok : Nat → Prop) (x : It) (w : World) (e : Ending) (w' : World) : Prop := ∃ v, e = .returned v ∧ ItAt w' (fun b => ok b ∨ w.heap.size ≤ b) v x ∧ Below w.heap.size w w'
theorem r08_ListK (l : List It) (A : Option Addr) (len cap : Nat) (w : World) (ok : Nat → Prop) (hM : l.length ≤ 1000000000000) (hs : SlAt w ok A len cap l) : Calls Tryz.prog 68 #[.slice A len cap] w (RetItK ok (.mk 2 ⟨#[]⟩ ⟨#[]⟩ l) w) := by
 have hlen := hs.1;by_cases h0 : len = 0
 · subst h0;have hl : l = [] := List.length_eq_zero_iff.1 hlen;subst hl;clear hlen hs hM
   cases A with
   | none =>
    go_enter Tryz.func68, Tryz.ntmps68;go_wp2;exact bodyPost_ret (v := .agg #[.int .i64 2, .string ⟨#[]⟩, .string ⟨#[]⟩, .slice none 0 0]) (by simp [results, Tryz.results68, go_sem]) rfl ⟨_, rfl, ⟨none, 0, 0, rfl, SlAt.nil _ _⟩, (Below.refl _ _).alloc (Nat.le_refl _) _⟩
   | some ad =>
    have hlc := fun (w : World) => (run_loadCells_list (P := Tryz.prog) w ad [] (by intro j v hj; simp at hj));go_enter Tryz.func68, Tryz.ntmps68;go_wp2;exact bodyPost_ret (v := .agg #[.int .i64 2, .string ⟨#[]⟩, .string ⟨#[]⟩, .slice none 0 0]) (by simp [results, Tryz.results68, go_sem]) rfl ⟨_, rfl, ⟨none, 0, 0, rfl, SlAt.nil _ _⟩, (Below.refl _ _).alloc (Nat.le_refl _) _⟩
 · obtain ⟨b, o, rfl⟩ := hs.head (by omega);obtain ⟨vs, hrow, hc, ho⟩ : ∃ vs, RowV w ok vs l ∧ (∀ j u, vs[j]? = some u → w.cell? ⟨b, o + j, none⟩ = some u) ∧ ∀ u ∈ vs, u.oneCell' = true := (by obtain ⟨h1, h2, h3, b', o', h4, h5⟩ := hs;have := (h4 (by omega)).1;simp only [Option.some.injEq, Addr.mk.injEq, and_true] at this;obtain ⟨rfl, rfl⟩ := this;exact RowAt.vals l b o h5);obtain ⟨i0, hi, hz0, hz1, hz2⟩ := info_parts za0;have hvl := hrow.length;have hlb : len ≤ 1000000000000 := by omega
   have HLEN := Hq hlen;have HS := Hq hs;have HROW := Hq hrow;have HC := Hq hc;have HO := Hq ho;have HVL := Hq hvl;clear hlen hs hrow hc ho hvl;have hpos : 0 < len := by omega
   clear h0;have hnews : ∀ w' : World, Below w.heap.size w w' → ∀ j u, vs[j]? = some u → w'.cell? ((⟨b, o, none⟩ : Addr).add j) = some u := fun w' hb j u hj => by
    have e : (⟨b, o, none⟩ : Addr).add j = ⟨b, o + j, none⟩ := by unfold Addr.add; split <;> simp_all
    rw [e];exact cell_kept hb (Nat.le_refl _) (HC.out j u hj)
   have HNEWS := Hq hnews;clear hnews;go_enter Tryz.func68, Tryz.ntmps68;go_wp2_with (at_builtin; refine wpList_append_lies _ rfl (.tmp 4) (.tmp 5) 92 rfl (w.heap.size + 1) 94 i0 _ 4 64 Tryz.underlying92 hi hz0 hz1 hz2 rfl (by decide) _ 0 [] rfl (World.ownsRow_nil _ _ _ _) ⟨b, o, none⟩ len cap vs rfl ?h1 ?h2 HO.out hpos ?h4 ?h5 ?h6 _ rfl ?_);case h1 => have := HVL.out; have := HLEN.out; omega
   case h2 => exact HNEWS.out _ ((Below.refl _ _).alloc (Nat.le_refl _) _)
   case h4 => unfold maxLen; omega
   case h5 => omega
   case h6 => simp
   intro g cap7 w7 hown7 hgrow7 hat7 hlt7;have hb7 : Below w.heap.size w w7 := ((Below.refl _ _).alloc (Nat.le_refl _) _).grown hgrow7 (by simp) (fun k e => by cases e);have hres : w7.heap[w.heap.size]? = some (.cells #[.int .i64 0, .string ⟨#[]⟩, .string ⟨#[]⟩, .slice none 0 0] 94 (0, 0)) := by
    rw [hgrow7.block _ (by simp) (fun e => by cases e)];exact heap_alloc_new _ _
   have hfin : SlAt w7 (fun b => (ok b ∧ b < w.heap.size) ∨ w.heap.size + 1 ≤ b) (some ⟨g, 0, none⟩) len cap7 l := by
    refine (RowV.slice (vs := vs) (RowV.low (ok' := fun b => (ok b ∧ b < w.heap.size) ∨ w.heap.size + 1 ≤ b) (fun b h => .inl h) _ _ (RowV.keep (fun b h _ => ?_) _ _ (RowV.bound _ _ HROW.out))) hown7 (fun g' e => ?_)).2
    · exact hb7.block b h.2
    · exact .inr (hown7.lt _ e).1
   obtain ⟨rc0, rc1, rc2, rc3⟩ := zx hres;obtain ⟨rf0, rf1, rf2, rf3⟩ := zab hres;have HB7 := Hq hb7;have HRES := Hq hres;have HFIN := Hq hfin;clear hb7 hres hfin hown7 hgrow7 hat7 hlt7;go_wp2;have HE := Hq (zx (kv HRES.out (.int .i64 2) (.string ⟨#[]⟩) (.string ⟨#[]⟩) (.slice (some ⟨g, 0, none⟩) len cap7)));have HK := Hq (HFIN.out.keep (w' := set4 w7 w.heap.size (.int .i64 2) (.string ⟨#[]⟩) (.string ⟨#[]⟩) (.slice (some ⟨g, 0, none⟩) len cap7)) (fun b hb _ => qx _ _ _ _ (by rcases hb with h | h <;> omega)));have HBE := Hq (kw (B := w.heap.size) HB7.out (b := w.heap.size) (Nat.le_refl _) (.int .i64 2) (.string ⟨#[]⟩) (.string ⟨#[]⟩) (.slice (some ⟨g, 0, none⟩) len cap7));unfold set4 at HE HK HBE;obtain ⟨wf, hwf⟩ : ∃ wf, (((w7.setCell ⟨w.heap.size, 0, none⟩ (.int .i64 2)).setCell ⟨w.heap.size, 1, none⟩ (.string ⟨#[]⟩)).setCell ⟨w.heap.size, 2, none⟩ (.string ⟨#[]⟩)).setCell ⟨w.heap.size, 3, none⟩ (.slice (some ⟨g, 0, none⟩) len cap7) = wf := ⟨_, rfl⟩;rw [hwf] at HE HK HBE ⊢;obtain ⟨q0, q1, q2, q3⟩ := HE.out;exact bodyPost_ret (v := .agg #[.int .i64 2, .string ⟨#[]⟩, .string ⟨#[]⟩, .slice (some ⟨g, 0, none⟩) len cap7]) (by simp [results, Tryz.results68, go_sem, q0, q1, q2, q3]) rfl ⟨_, rfl, ⟨_, _, _, rfl, HK.out.low (fun b hb => hb.elim (fun h => .inl h.1) (fun h => .inr (by omega)))⟩, HBE.out⟩
theorem r37_items (l : List ByteArray) (A : Option Addr) (len cap : Nat) (w : World) (hs : SlN w A len cap l) (hl : len ≤ 1000000) : Calls Tryz.prog 70 #[.slice A len cap] w (zoy (.mk 2 ⟨#[]⟩ ⟨#[]⟩ (l.map natIt)) w) := by
 obtain ⟨W0, hW0⟩ : ∃ W0, w.alloc (.cells #[.int .i64 0, .string ⟨#[]⟩, .string ⟨#[]⟩, .slice none 0 0] 94) = W0 := ⟨_, rfl⟩;have HR0 := Hq (show W0.heap[w.heap.size]? = some (.cells #[.int .i64 0, .string ⟨#[]⟩, .string ⟨#[]⟩, .slice none 0 0] 94 (0, 0)) from by rw [← hW0]; exact heap_alloc_new _ _);have HB0 := Hq (show Below w.heap.size w W0 from by rw [← hW0]; exact (Below.refl _ _).alloc (Nat.le_refl _) _);have hsz0 : w.heap.size + 1 = W0.heap.size := by rw [← hW0]; simp
 have HS := Hq (hs.kept HB0.out (Nat.le_refl _));have HLEN := Hq hs.1;have HSZ0 := Hq hsz0;have hcap := hs.2.1;have hcap2 := hs.2.2.1;clear hs hsz0;go_enter Tryz.func70, Tryz.ntmps70;go_wp2;try rw [hW0]
 clear hW0;go_loopw [3, 4] (fun s i wr => ∃ j : Nat, j ≤ len ∧ i = .int .i64 j ∧ wr.ownsRow W0.heap.size 94 4 s j (itVals (l.take j)) ∧ Below W0.heap.size W0 wr) (fun _ i _ => len - (intOf i).toNat);case atStart => exact ⟨0, Nat.zero_le _, rfl, World.ownsRow_nil _ _ _ _, Below.refl _ _⟩
 case round =>
  obtain ⟨j, hj, rfl, hown, hbb⟩ := hrel;have HB := Hq hbb;have HOWN := Hq hown;clear hbb hown;by_cases hlt : j < len
  · obtain ⟨a, he⟩ : ∃ a, l[j]? = some a := ⟨_, List.getElem?_eq_getElem (by rw [HLEN.out]; exact hlt)⟩;obtain ⟨b, o, rfl, e1⟩ := HS.out.cell he;have e2 := cell_kept HB.out (Nat.le_refl _) e1;have HE := Hq he;clear he e1;go_wp2_with fail;refine (r08_NatV a _).mono ?_;rintro e w1 ⟨rfl, hb1⟩;have HO1 := Hq ((jy HOWN.out hb1 (Nat.le_refl _)).alloc (.cells #[.int .i64 0, .string a, .string ⟨#[]⟩, .slice none 0 0] 94));have HB1 := Hq (HB.out.trans (hb1.mono HB.out.size));clear hb1 e2;obtain ⟨i0, hi, hz0, hz1, hz2⟩ := info_parts za0;go_wp2_with (at_builtin; refine wpList_append_lies _ rfl (.tmp 11) (.tmp 17) 92 rfl W0.heap.size 94 i0 _ 4 64 Tryz.underlying92 hi hz0 hz1 hz2 rfl (by decide) u3 j _ rfl HO1.out ⟨w1.heap.size, 0, none⟩ 1 1 [.int .i64 0, .string a, .string ⟨#[]⟩, .slice none 0 0] rfl rfl (World.news_of_block (heap_alloc_new w1 (.cells #[.int .i64 0, .string a, .string ⟨#[]⟩, .slice none 0 0] 94))) ?hone (by decide) ?h63 ?hby ?hbase _ rfl ?_);case hone => intro u hu; simp only [List.mem_cons, List.mem_nil_iff, or_false] at hu; rcases hu with rfl | rfl | rfl | rfl <;> rfl
    case h63 => unfold maxLen; omega
    case hby => omega
    case hbase => have := HB1.out.size; simp; omega
    intro g cap7 w7 hown7 hgrow7 hat7 hlt7;have HO7 := Hq (show w7.ownsRow W0.heap.size 94 4 (.slice (some ⟨g, 0, none⟩) (j + 1) cap7) (j + 1) (itVals (l.take (j + 1))) from by
     rw [List.take_add_one, HE.out, Option.toList_some, itVals_snoc]
     exact hown7)
    have HB7 := Hq ((HB1.out.alloc HB1.out.size _).grown hgrow7 (by have := HB1.out.size; simp; omega) (fun k hk => (HO1.out.lt k hk).1));clear hown7 hgrow7 hat7 hlt7 hi hz0 hz1 hz2;go_wp2;go_roundw;case rel => exact ⟨j + 1, by omega, by go_num, HO7.out, HB7.out⟩
    case measure => simp [intOf]; omega
  · obtain rfl : j = len := by omega
    have hown := HOWN.out;rw [← HLEN.out, List.take_length, HLEN.out] at hown;obtain ⟨A2, m2, cap2, rfl⟩ : ∃ A2 m2 cap2, u3 = .slice A2 m2 cap2 := by
     rcases hown.2 with ⟨h, _⟩ | ⟨g, c, _, h, _⟩
     · exact ⟨_, _, _, h⟩
     · exact ⟨_, _, _, h⟩
    obtain ⟨hm2, hsl⟩ := RowV.slice (itVals_row wr (fun b => W0.heap.size ≤ b) l) hown (fun g e => (hown.lt _ e).1);subst hm2;have HSL := Hq hsl;have HN := Hq (show (l.map natIt).length ≤ 1000000000000 by rw [List.length_map, HLEN.out]; omega);have HR := Hq (jc HB.out (Nat.le_refl _) HR0.out);clear hown hsl hlt hj;go_wp2_with fail;refine (r08_ListK (l.map natIt) A2 m2 cap2 _ _ HN.out HSL.out).mono ?_;rintro e w1 ⟨v1, rfl, ⟨A3, l3, c3, rfl, hs3⟩, hb1⟩;have hs3 := hs3.low (ok' := fun b => W0.heap.size ≤ b) (fun b hb => hb.elim id (fun h => Nat.le_trans HB.out.size h));have hres := jc hb1 (Nat.le_refl _) HR.out;have hwl : w.heap.size < wr.heap.size := zw HR.out;obtain ⟨rf0, rf1, rf2, rf3⟩ := zab hres;obtain ⟨rc0, rc1, rc2, rc3⟩ := zx hres;have HBB := Hq (HB0.out.trans ((HB.out.trans (hb1.mono HB.out.size)).mono HB0.out.size));have HRES := Hq hres;have HS3 := Hq hs3;clear hb1 hres hs3;go_wp2;have HE := Hq (zx (kv HRES.out (.int .i64 2) (.string ⟨#[]⟩) (.string ⟨#[]⟩) (.slice A3 l3 c3)));have HK := Hq (HS3.out.keep (w' := set4 w1 (w.heap.size) (.int .i64 2) (.string ⟨#[]⟩) (.string ⟨#[]⟩) (.slice A3 l3 c3)) (fun b hb _ => qx _ _ _ _ (by have := HSZ0.out; omega)));have HBE := Hq (kw HBB.out (b := w.heap.size) (Nat.le_refl _) (.int .i64 2) (.string ⟨#[]⟩) (.string ⟨#[]⟩) (.slice A3 l3 c3));unfold set4 at HE HK HBE;simp only [It.kind, It.nat, It.text] at *;obtain ⟨wf, hwf⟩ : ∃ wf, (((w1.setCell ⟨w.heap.size, 0, none⟩ (.int .i64 2)).setCell ⟨w.heap.size, 1, none⟩ (.string ⟨#[]⟩)).setCell ⟨w.heap.size, 2, none⟩ (.string ⟨#[]⟩)).setCell ⟨w.heap.size, 3, none⟩ (.slice A3 l3 c3) = wf := ⟨_, rfl⟩;rw [hwf] at HE HK HBE ⊢;obtain ⟨q0, q1, q2, q3⟩ := HE.out;exact bodyPost_ret (v := .agg #[.int .i64 2, .string ⟨#[]⟩, .string ⟨#[]⟩, .slice A3 l3 c3]) (by simp [results, Tryz.results70, go_sem, q0, q1, q2, q3]) rfl ⟨_, rfl, ⟨_, _, _, rfl, HK.out.low (fun b hb => by have := HSZ0.out; omega)⟩, HBE.out⟩
set_option maxRecDepth 100000
set_option maxHeartbeats 1000000
open Go.RowKit
theorem canon_valid {s : ByteArray} (h : zd s = true) : zad s.data.toList := by
 unfold zd at h;rw [Bool.and_eq_true, Bool.not_eq_true', beq_eq_false_iff_ne] at h;exact h.2
theorem size_valid {s : ByteArray} (h : zd s = true) : s.size ≤ 128 := by
 unfold zd at h;rw [Bool.and_eq_true] at h;exact of_decide_eq_true h.1
theorem ordB_num {a b : ByteArray} (ha : zd a = true) (hb : zd b = true) : ordB a b = cmpI (num a) (num b) := ze6 (canon_valid ha) (canon_valid hb)
theorem ncmp_num {a b : ByteArray} (ha : zd a = true) (hb : zd b = true) : ncmp a b = cmpI (num a) (num b) := by
 unfold ncmp;rw [ha, hb];exact ordB_num ha hb
theorem cmpI_neg {a b : Nat} : cmpI a b < 0 ↔ a < b := by
 unfold cmpI;split
 · simp_all
 · split <;> simp_all
theorem num_inj {a b : ByteArray} (ha : zd a = true) (hb : zd b = true) (h : num a = num b) : a = b := by
 have h1 := zch (canon_valid ha);have h2 := zch (canon_valid hb);have : a.data.toList = b.data.toList := (by rw [← h1, ← h2];exact congrArg encN h);exact ByteArray.ext (Array.toList_inj.1 this)
def ascB (l : List ByteArray) : Bool := (List.range l.length).all (fun k => match l[k]?, l[k + 1]? with
 | some a, some b => decide (num a < num b)
 | _, _ => true)
theorem ascB_iff {l : List ByteArray} : ascB l = true ↔ ∀ (k : Nat) a b, l[k]? = some a → l[k + 1]? = some b → num a < num b := by
 unfold ascB;rw [List.all_eq_true];constructor
 · intro h k a b h1 h2;have := h k (List.mem_range.2 (List.getElem?_eq_some_iff.1 h1).1);rw [h1, h2] at this;exact of_decide_eq_true this
 · intro h k _
   cases h1 : l[k]? with
   | none => rfl
   | some a =>
    cases h2 : l[k + 1]? with
    | none => rfl
    | some b => exact decide_eq_true (h k a b h1 h2)
theorem ascB_no {l : List ByteArray} {k : Nat} {a b : ByteArray} (h1 : l[k]? = some a) (h2 : l[k + 1]? = some b) (h : ¬ num a < num b) : ascB l = false := by
 cases h3 : ascB l with
 | false => rfl
 | true => exact absurd (ascB_iff.1 h3 k a b h1 h2) h
theorem ep_ascends (l : List ByteArray) (A : Option Addr) (len cap : Nat) (w : World) (hs : SlN w A len cap l) (hv : ∀ s ∈ l, zd s = true) : Calls Tryz.prog 86 #[.slice A len cap] w (Ret (.bool (ascB l)) w) := by
 have HS := Hq hs;have HV := Hq hv;have HLEN := Hq hs.1;have hcap := hs.2.1;have hcap2 := hs.2.2.1;clear hs hv;go_enter Tryz.func86, Tryz.ntmps86;go_wp2;go_loopw [3] (fun i wr => ∃ k : Nat, (k + 1 ≤ len ∨ k = 0) ∧ i = .int .i64 ((k : Int) + 1) ∧ (∀ (m : Nat) a b, m < k → l[m]? = some a → l[m + 1]? = some b → num a < num b) ∧ Below w.heap.size w wr) (fun i _ => len + 1 - (intOf i).toNat);case atStart => exact ⟨0, .inr rfl, rfl, fun m a b h => absurd h (Nat.not_lt_zero _), Below.refl _ _⟩
 case round =>
  obtain ⟨k, hk, rfl, hall, hbb⟩ := hrel;have HALL := Hq hall;have HB := Hq hbb;clear hall hbb;by_cases hlt : k + 1 < len
  · obtain ⟨a, ha⟩ : ∃ a, l[k]? = some a := ⟨_, List.getElem?_eq_getElem (by rw [HLEN.out]; omega)⟩;obtain ⟨c, hc⟩ : ∃ c, l[k + 1]? = some c := ⟨_, List.getElem?_eq_getElem (by rw [HLEN.out]; exact hlt)⟩;have va := HV.out a (List.mem_of_getElem? ha);have vc := HV.out c (List.mem_of_getElem? hc);have hsa := size_valid va;have hsc := size_valid vc;obtain ⟨b, o, rfl, e1⟩ := (HS.out.kept HB.out (Nat.le_refl _)).cell ha;obtain ⟨_, _, e, e2⟩ := (HS.out.kept HB.out (Nat.le_refl _)).cell hc;cases e;have e1 : wr.drew.cell? ⟨b, o + k, none⟩ = some (.string a) := e1;have e2 : wr.drew.cell? ⟨b, o + (k + 1), none⟩ = some (.string c) := e2;have HCM := Hq (show ∀ w, Calls Tryz.prog 24 #[.string a, .string c] w (Ret (.int .i64 (cmpI (num a) (num c))) w) from fun w => by
     have := qp a c (by omega) (by omega) w;rw [ncmp_num va vc] at this
     exact this.mono fun _ _ h => ⟨h.1, h.2 ▸ Below.refl _ _⟩)
    have HA := Hq ha;have HC := Hq hc;have k1 : (k : Int) + 1 - 1 = k := by omega
    have k2 : IntKind.i64.wrap (k : Int) = k := by rw [IntKind.wrap_i64]; omega
    have k3 : k < len := by omega
    have k4 : (0 : Int) ≤ (k : Int) + 1 := by omega
    clear ha hc va vc hsa hsc;go_wp2;refine zg 11 (Below (wr.drew).heap.size (wr.drew)) (by kernel_rfl) ?_;intro hD;refine qPD 0 10 10 rfl hD (Below.refl _ _) ?_;clear hD; intro hD;simp only [Act.put, sqA, sqB, sqC];refine qPD 1 11 9 rfl hD (Below.refl _ _) ?_;clear hD; intro hD;simp only [Act.put, sqA, sqB, sqC];refine qPD 2 12 8 rfl hD (Below.refl _ _) ?_;clear hD; intro hD;simp only [Act.put, sqA, sqB, sqC];refine qPD 3 13 7 rfl hD (Below.refl _ _) ?_;clear hD; intro hD;simp only [Act.put, sqA, sqB, sqC];refine qSD 4 14 6 rfl hD (Below.refl _ _) (by intro w' hS'; have e0 := cell_kept hS' (Nat.le_refl _) e1; have e1 := cell_kept hS' (Nat.le_refl _) e2; go_simp; with_reducible rfl) ?_;clear hD; intro hD;simp only [Act.put, sqA, sqB, sqC];refine qPD 5 15 5 rfl hD (Below.refl _ _) ?_;clear hD; intro hD;simp only [Act.put, sqA, sqB, sqC];refine qPD 6 16 4 rfl hD (Below.refl _ _) ?_;clear hD; intro hD;simp only [Act.put, sqA, sqB, sqC];refine qPD 7 17 3 rfl hD (Below.refl _ _) ?_;clear hD; intro hD;simp only [Act.put, sqA, sqB, sqC];refine qSD 8 18 2 rfl hD (Below.refl _ _) (by intro w' hS'; have e0 := cell_kept hS' (Nat.le_refl _) e1; have e1 := cell_kept hS' (Nat.le_refl _) e2; go_simp; with_reducible rfl) ?_;clear hD; intro hD;simp only [Act.put, sqA, sqB, sqC];refine zc (i := 9) (fuel := 1) (by kernel_rfl) rfl hD ?_;clear hD; intro K9 hK9;go_wp2_with fail;refine (HCM.out _).mono ?_;rintro e w1 ⟨rfl, hb⟩;have HL1 := Hq hb;go_wp2;refine hK9 _ _ (by exact hb) ?_; clear hK9; intro hS_4_9 hD;refine qPD 10 20 0 rfl hD hS_4_9 ?_;clear hD; intro hD;simp only [Act.put, sqA, sqB, sqC];refine ze (by kernel_rfl) ?_ 0;clear hD;have HB1 := Hq (HB.out.trans (((Below.refl wr.heap.size wr).drew.trans HL1.out).mono HB.out.size));by_cases hlt2 : num a < num c
    · have h0 : cmpI (num a) (num c) < 0 := cmpI_neg.2 hlt2;have HA2 := Hq (show ∀ (m : Nat) a b, m < k + 1 → l[m]? = some a → l[m + 1]? = some b → num a < num b from fun m x y hm hx hy => by
       rcases Nat.lt_or_ge m k with h | h
       · exact HALL.out m x y h hx hy
       · obtain rfl : m = k := by omega
         rw [HA.out] at hx;rw [HC.out] at hy;cases hx; cases hy
         exact hlt2)
      obtain ⟨cc, hcc⟩ : ∃ cc, cmpI (num a) (num c) = cc := ⟨_, rfl⟩;rw [hcc] at h0 ⊢;clear hcc hlt2;go_wp2;go_roundw;case rel => exact ⟨k + 1, .inl (by omega), by go_num, HA2.out, HB1.out⟩
      case measure => simp [intOf]; omega
    · have h0 : ¬ (cmpI (num a) (num c) < 0) := fun h => hlt2 (cmpI_neg.1 h);have HF := Hq (ascB_no HA.out HC.out hlt2);obtain ⟨cc, hcc⟩ : ∃ cc, cmpI (num a) (num c) = cc := ⟨_, rfl⟩;rw [hcc] at h0 ⊢;clear hcc hlt2;go_wp2;go_ret;exact ⟨by rw [HF.out]; rfl, HB1.out⟩
  · have HF := Hq (show ascB l = true from ascB_iff.2 (fun m a b h1 h2 => HALL.out m a b (by have := (List.getElem?_eq_some_iff.1 h2).1; rw [HLEN.out] at this; omega) h1 h2));clear hk;go_wp2;go_ret;exact ⟨by rw [HF.out]; rfl, HB.out⟩
theorem r37_ascends (l : List ByteArray) (A : Option Addr) (len cap : Nat) (w : World) (hs : SlN w A len cap l) (hv : ∀ s ∈ l, zd s = true) : Calls Tryz.prog 118 #[.slice A len cap] w (Ret (.bool (ascB l)) w) := by
 have HS := Hq hs;have HV := Hq hv;have HLEN := Hq hs.1;have hcap := hs.2.1;have hcap2 := hs.2.2.1;clear hs hv;go_enter Tryz.func118, Tryz.ntmps118;go_wp2;go_loopw [3] (fun i wr => ∃ k : Nat, (k + 1 ≤ len ∨ k = 0) ∧ i = .int .i64 ((k : Int) + 1) ∧ (∀ (m : Nat) a b, m < k → l[m]? = some a → l[m + 1]? = some b → num a < num b) ∧ Below w.heap.size w wr) (fun i _ => len + 1 - (intOf i).toNat);case atStart => exact ⟨0, .inr rfl, rfl, fun m a b h => absurd h (Nat.not_lt_zero _), Below.refl _ _⟩
 case round =>
  obtain ⟨k, hk, rfl, hall, hbb⟩ := hrel;have HALL := Hq hall;have HB := Hq hbb;clear hall hbb;by_cases hlt : k + 1 < len
  · obtain ⟨a, ha⟩ : ∃ a, l[k]? = some a := ⟨_, List.getElem?_eq_getElem (by rw [HLEN.out]; omega)⟩;obtain ⟨c, hc⟩ : ∃ c, l[k + 1]? = some c := ⟨_, List.getElem?_eq_getElem (by rw [HLEN.out]; exact hlt)⟩;have va := HV.out a (List.mem_of_getElem? ha);have vc := HV.out c (List.mem_of_getElem? hc);have hsa := size_valid va;have hsc := size_valid vc;obtain ⟨b, o, rfl, e1⟩ := (HS.out.kept HB.out (Nat.le_refl _)).cell ha;obtain ⟨_, _, e, e2⟩ := (HS.out.kept HB.out (Nat.le_refl _)).cell hc;cases e;have e1 : wr.drew.cell? ⟨b, o + k, none⟩ = some (.string a) := e1;have e2 : wr.drew.cell? ⟨b, o + (k + 1), none⟩ = some (.string c) := e2;have HCM := Hq (show ∀ w, Calls Tryz.prog 119 #[.string a, .string c] w (Ret (.int .i64 (cmpI (num a) (num c))) w) from fun w => by
     have := jv a c (by omega) (by omega) w;rw [ordB_num va vc] at this
     exact this)
    have HA := Hq ha;have HC := Hq hc;have k1 : (k : Int) + 1 - 1 = k := by omega
    have k2 : IntKind.i64.wrap (k : Int) = k := by rw [IntKind.wrap_i64]; omega
    have k3 : k < len := by omega
    have k4 : (0 : Int) ≤ (k : Int) + 1 := by omega
    clear ha hc va vc hsa hsc;go_wp2;refine zg 11 (Below (wr.drew).heap.size (wr.drew)) (by kernel_rfl) ?_;intro hD;refine qPD 0 10 10 rfl hD (Below.refl _ _) ?_;clear hD; intro hD;simp only [Act.put, sqA, sqB, sqC];refine qPD 1 11 9 rfl hD (Below.refl _ _) ?_;clear hD; intro hD;simp only [Act.put, sqA, sqB, sqC];refine qPD 2 12 8 rfl hD (Below.refl _ _) ?_;clear hD; intro hD;simp only [Act.put, sqA, sqB, sqC];refine qPD 3 13 7 rfl hD (Below.refl _ _) ?_;clear hD; intro hD;simp only [Act.put, sqA, sqB, sqC];refine qSD 4 14 6 rfl hD (Below.refl _ _) (by intro w' hS'; have e0 := cell_kept hS' (Nat.le_refl _) e1; have e1 := cell_kept hS' (Nat.le_refl _) e2; go_simp; with_reducible rfl) ?_;clear hD; intro hD;simp only [Act.put, sqA, sqB, sqC];refine qPD 5 15 5 rfl hD (Below.refl _ _) ?_;clear hD; intro hD;simp only [Act.put, sqA, sqB, sqC];refine qPD 6 16 4 rfl hD (Below.refl _ _) ?_;clear hD; intro hD;simp only [Act.put, sqA, sqB, sqC];refine qPD 7 17 3 rfl hD (Below.refl _ _) ?_;clear hD; intro hD;simp only [Act.put, sqA, sqB, sqC];refine qSD 8 18 2 rfl hD (Below.refl _ _) (by intro w' hS'; have e0 := cell_kept hS' (Nat.le_refl _) e1; have e1 := cell_kept hS' (Nat.le_refl _) e2; go_simp; with_reducible rfl) ?_;clear hD; intro hD;simp only [Act.put, sqA, sqB, sqC];refine zc (i := 9) (fuel := 1) (by kernel_rfl) rfl hD ?_;clear hD; intro K9 hK9;go_wp2_with fail;refine (HCM.out _).mono ?_;rintro e w1 ⟨rfl, hb⟩;have HL1 := Hq hb;go_wp2;refine hK9 _ _ (by exact hb) ?_; clear hK9; intro hS_4_9 hD;refine qPD 10 20 0 rfl hD hS_4_9 ?_;clear hD; intro hD;simp only [Act.put, sqA, sqB, sqC];refine ze (by kernel_rfl) ?_ 0;clear hD;have HB1 := Hq (HB.out.trans (((Below.refl wr.heap.size wr).drew.trans HL1.out).mono HB.out.size));by_cases hlt2 : num a < num c
    · have h0 : cmpI (num a) (num c) < 0 := cmpI_neg.2 hlt2;have HA2 := Hq (show ∀ (m : Nat) a b, m < k + 1 → l[m]? = some a → l[m + 1]? = some b → num a < num b from fun m x y hm hx hy => by
       rcases Nat.lt_or_ge m k with h | h
       · exact HALL.out m x y h hx hy
       · obtain rfl : m = k := by omega
         rw [HA.out] at hx;rw [HC.out] at hy;cases hx; cases hy
         exact hlt2)
      obtain ⟨cc, hcc⟩ : ∃ cc, cmpI (num a) (num c) = cc := ⟨_, rfl⟩;rw [hcc] at h0 ⊢;clear hcc hlt2;go_wp2;go_roundw;case rel => exact ⟨k + 1, .inl (by omega), by go_num, HA2.out, HB1.out⟩
      case measure => simp [intOf]; omega
    · have h0 : ¬ (cmpI (num a) (num c) < 0) := fun h => hlt2 (cmpI_neg.1 h);have HF := Hq (ascB_no HA.out HC.out hlt2);obtain ⟨cc, hcc⟩ : ∃ cc, cmpI (num a) (num c) = cc := ⟨_, rfl⟩;rw [hcc] at h0 ⊢;clear hcc hlt2;go_wp2;go_ret;exact ⟨by rw [HF.out]; rfl, HB1.out⟩
  · have HF := Hq (show ascB l = true from ascB_iff.2 (fun m a b h1 h2 => HALL.out m a b (by have := (List.getElem?_eq_some_iff.1 h2).1; rw [HLEN.out] at this; omega) h1 h2));clear hk;go_wp2;go_ret;exact ⟨by rw [HF.out]; rfl, HB.out⟩
end Go.Proofs.YtkfgdcgmlobhfaaGreat
/-
 DERIVED: THE SHELF's CONTRACTS AT THIS DUMP, IN PLAIN WORDS (tools/lay-plain.mjs out of 'TryShel2.lean', which tools/lay-shelf.mjs wrote): THE SAME DECLARATIONS UNDER THE SAME NAMES: 'import', 'namespace', 'open', 'def', 'theorem' AND NOTHING ELSE: no command of the shelf's: FOR A HAND-IN. Each laying: the table of numbers ('.._ren') and one theorem, a field a fact of the dump's own or the kernel's comparison; each contract: ONE APPLICATION.
-/
namespace Go.Proofs
open Go.Shelf
def Tryz.growN_ren : Go.Shelf.Ren := ⟨fun | 4 => 140 | n => n, fun | 22 => 25 | 25 => 22 | 3 => 3 | 4 => 4 | 9 => 9 | 20 => 20 | 0 => 0 | n => n, fun | n => n⟩
theorem Tryz.growN : Go.Proofs.Lays8.n4 Tryz.prog Tryz.growN_ren := {
 mixed := by kernel_rfl
 f4 := ⟨Tryz.f140.name, by decide, Tryz.func140.trans (congrArg some (by kernel_rfl))⟩
 t0 := Tryz.underlying0
 a0 := Tryz.isAgg0
 z0 := Tryz.sizeOf0
 v0 := Tryz.zeroValue0
 t3 := Tryz.underlying3
 a3 := Tryz.isAgg3
 z3 := Tryz.sizeOf3
 v3 := Tryz.zeroValue3
 t4 := Tryz.underlying4
 a4 := Tryz.isAgg4
 z4 := Tryz.sizeOf4
 v4 := Tryz.zeroValue4
 t9 := Tryz.underlying9
 a9 := Tryz.isAgg9
 z9 := Tryz.sizeOf9
 v9 := Tryz.zeroValue9
 t20 := Tryz.underlying20
 a20 := Tryz.isAgg20
 z20 := Tryz.sizeOf20
 v20 := Tryz.zeroValue20
 t22 := Tryz.underlying25
 a22 := Tryz.isAgg25
 z22 := Tryz.sizeOf25
 v22 := Tryz.zeroValue25 }
def Tryz.keysN_ren : Go.Shelf.Ren := ⟨fun | 7 => 23 | 10 => 46 | n => n, fun | 23 => 66 | 26 => 22 | 3 => 3 | 28 => 69 | 0 => 0 | 27 => 68 | 33 => 56 | 4 => 4 | n => n, fun | n => n⟩
theorem Tryz.keysN : Go.Proofs.SlLaysZ.n7 Tryz.prog Tryz.keysN_ren := {
 mixed := by kernel_rfl
 f7 := ⟨Tryz.f23.name, by decide, Tryz.func23.trans (congrArg some (by kernel_rfl))⟩
 f10 := ⟨Tryz.f46.name, by decide, Tryz.func46.trans (congrArg some (by kernel_rfl))⟩
 t0 := Tryz.underlying0
 a0 := Tryz.isAgg0
 z0 := Tryz.sizeOf0
 v0 := Tryz.zeroValue0
 t4 := Tryz.underlying4
 a4 := Tryz.isAgg4
 z4 := Tryz.sizeOf4
 v4 := Tryz.zeroValue4
 t23 := Tryz.underlying66
 a23 := Tryz.isAgg66
 z23 := Tryz.sizeOf66
 v23 := Tryz.zeroValue66
 t26 := Tryz.underlying22
 a26 := Tryz.isAgg22
 z26 := Tryz.sizeOf22
 v26 := Tryz.zeroValue22
 t27 := Tryz.underlying68
 a27 := Tryz.isAgg68
 z27 := Tryz.sizeOf68
 v27 := Tryz.zeroValue68
 t28 := Tryz.underlying69
 a28 := Tryz.isAgg69
 z28 := Tryz.sizeOf69
 v28 := Tryz.zeroValue69
 t33 := Tryz.underlying56
 a33 := Tryz.isAgg56
 z33 := Tryz.sizeOf56
 v33 := Tryz.zeroValue56 }
def Tryz.collectN_ren : Go.Shelf.Ren := ⟨fun | 8 => 44 | 11 => 95 | n => n, fun | 26 => 22 | 28 => 69 | 24 => 25 | 0 => 0 | 33 => 56 | 4 => 4 | n => n, fun | n => n⟩
theorem Tryz.collectN : Go.Proofs.SlLaysZ.n8 Tryz.prog Tryz.collectN_ren := {
 mixed := by kernel_rfl
 f8 := ⟨Tryz.f44.name, by decide, Tryz.func44.trans (congrArg some (by kernel_rfl))⟩
 f11 := ⟨Tryz.f95.name, by decide, Tryz.func95.trans (congrArg some (by kernel_rfl))⟩
 t0 := Tryz.underlying0
 a0 := Tryz.isAgg0
 z0 := Tryz.sizeOf0
 v0 := Tryz.zeroValue0
 t24 := Tryz.underlying25
 a24 := Tryz.isAgg25
 z24 := Tryz.sizeOf25
 v24 := Tryz.zeroValue25
 t26 := Tryz.underlying22
 a26 := Tryz.isAgg22
 z26 := Tryz.sizeOf22
 v26 := Tryz.zeroValue22
 t28 := Tryz.underlying69
 a28 := Tryz.isAgg69
 z28 := Tryz.sizeOf69
 v28 := Tryz.zeroValue69
 i26 := by kernel_rfl }
end Go.Proofs

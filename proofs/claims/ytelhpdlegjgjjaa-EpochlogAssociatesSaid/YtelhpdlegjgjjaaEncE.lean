/- Walks: ref08.Length, ref08.List. -/
import Derived.Test.YtelhpdlegjgjjaaEncD
set_option linter.unusedVariables false
set_option linter.unusedSimpArgs false
namespace Go.Proofs.Ytelhpdlegjgjjaa
open Go.RowKit

/-- 'string([]byte{c})', the slice in a block of its own. -/
theorem conv_one (w : World) (c : Nat) (h : c < 256) (b : Nat) (hb : b = w.heap.size) (T : TypeId) : (convert 82 9 (.slice (some ⟨b, 0, none⟩) 1 1)).run Try.prog (w.alloc (.cells #[.int .u8 (c : Int)] T)) =
    .ok (.string (bstr [UInt8.ofNat c])) (w.alloc (.cells #[.int .u8 (c : Int)] T)) := by
  subst hb
  refine BytesAt.conv (bytesAt_alloc w _ T [UInt8.ofNat c] 1 1 rfl (by omega) (by omega) fun k hk => ?_) _ _ 5 Try.underlying82 Try.underlying5 Try.underlying9
  match k, hk with
  | 0, _ => exact congrArg (fun x => some (Value.int .u8 x)) (congrArg Int.ofNat (toNat_small h).symm)
theorem bstr_append (l m : List UInt8) : bstr l ++ bstr m = bstr (l ++ m) := by
  unfold bstr
  rw [ByteArray.mk_append_mk]

set_option maxRecDepth 100000 in
set_option maxHeartbeats 2000000 in
theorem r08_Length (n : Nat) (w : World) (h : n < 34359738368) : Calls Try.prog 75 #[.int .i64 n] w (Ret (.string (bstr (lenB n))) w) := by
  have hn : (n : Int) ≤ 34359738368 := by omega
  have h0 : n < 128 ^ 10 := by omega
  have H0 := Lib.hid h0
  clear h h0
  go_enter Try.func75, Try.ntmps75
  go_wp2
  go_loopw [0, 3] (fun m s wr => ∃ (q f : Nat) (p : List UInt8), m = .int .i64 q ∧ s = .string (bstr p) ∧ lenB n = p ++ lenF (f + 1) q ∧ p.length + f = 9 ∧ q < 128 ^ (f + 1) ∧ q ≤ n ∧ Below w.heap.size w wr) (fun m _ _ => (intOf m).toNat)
  case atStart => exact ⟨n, 9, [], rfl, rfl, rfl, rfl, H0.out, Nat.le_refl _, Below.refl _ _⟩
  case round =>
    obtain ⟨q, f, p, rfl, rfl, hl, hp, hq, hqn, hB⟩ := hrel
    have hps : (bstr p).size ≤ 10 := by rw [bstr_size]; omega
    have hsz := hB.size
    have HL := Lib.hid hl
    have HP := Lib.hid hp
    have HQ := Lib.hid hq
    have HB := Lib.hid hB
    clear hl hp hq hB
    by_cases h1 : q < 128
    · have hc := conv_one wr q (by omega) _ rfl 5
      have hs := bstr_size [UInt8.ofNat q]
      have hadd := run_string_add_sum (P := Try.prog) (wr.alloc (.cells #[.int .u8 (q : Int)] 5)) (bstr p) (bstr [UInt8.ofNat q]) (by rw [hs]; simp; omega)
      rw [bstr_append] at hadd
      clear hs
      go_wp2
      go_ret
      refine ⟨?_, HB.out.alloc hsz _⟩
      have e := HL.out
      rw [lenF, if_pos h1] at e
      rw [e]
      rfl
    · obtain ⟨f', hf⟩ : ∃ f', f = f' + 1 := by
        cases f with
        | zero => have := HQ.out; omega
        | succ f' => exact ⟨f', rfl⟩
      subst hf
      have hc := conv_one wr (q % 128 + 128) (by omega) _ rfl 5
      rw [show (((q % 128 + 128 : Nat) : Int)) = (q : Int) % 128 + 128 from by omega] at hc
      have hs := bstr_size [UInt8.ofNat (q % 128 + 128)]
      have hadd := run_string_add_sum (P := Try.prog) (wr.alloc (.cells #[.int .u8 ((q : Int) % 128 + 128)] 5)) (bstr p) (bstr [UInt8.ofNat (q % 128 + 128)]) (by rw [hs]; simp; omega)
      rw [bstr_append] at hadd
      clear hs
      obtain ⟨c, hcc⟩ : ∃ c : UInt8, UInt8.ofNat (q % 128 + 128) = c := ⟨_, rfl⟩
      rw [hcc] at hc hadd
      have HCC := Lib.hid hcc
      clear hcc
      go_wp2
      refine ⟨⟨q / 128, f', _, by go_num, rfl, ?_, ?_, ?_, by omega, HB.out.alloc hsz _⟩, by simp [intOf]; omega⟩
      · rw [HL.out, lenF, if_neg h1, HCC.out]; simp
      · have := HP.out; simp; omega
      · have := HQ.out; rw [Nat.pow_succ] at this; exact Nat.div_lt_of_lt_mul (by omega)

set_option maxRecDepth 100000 in
set_option maxHeartbeats 2000000 in
theorem r08_List (l : List It) (A : Option Addr) (len cap : Nat) (w : World) (ok : Nat → Prop) (hM : l.length ≤ 1000000000000) (hs : SlAt w ok A len cap l) : Calls Try.prog 31 #[.slice A len cap] w (RetIt0 (.mk 2 ⟨#[]⟩ ⟨#[]⟩ l) w) := by
  have hlen := hs.1
  by_cases h0 : len = 0
  · subst h0
    have hl : l = [] := List.length_eq_zero_iff.1 hlen
    subst hl
    clear hlen hs hM
    cases A with
    | none =>
      go_enter Try.func31, Try.ntmps31
      go_wp2
      exact bodyPost_ret (v := .agg #[.int .i64 2, .string ⟨#[]⟩, .string ⟨#[]⟩, .slice none 0 0]) (by simp [results, Try.results31, go_sem]) rfl ⟨_, rfl, ⟨none, 0, 0, rfl, SlAt.nil _ _⟩, (Below.refl _ _).alloc (Nat.le_refl _) _⟩
    | some ad =>
      have hlc := fun (w : World) => (run_loadCells_list (P := Try.prog) w ad [] (by intro j v hj; simp at hj))
      go_enter Try.func31, Try.ntmps31
      go_wp2
      exact bodyPost_ret (v := .agg #[.int .i64 2, .string ⟨#[]⟩, .string ⟨#[]⟩, .slice none 0 0]) (by simp [results, Try.results31, go_sem]) rfl ⟨_, rfl, ⟨none, 0, 0, rfl, SlAt.nil _ _⟩, (Below.refl _ _).alloc (Nat.le_refl _) _⟩
  · obtain ⟨b, o, rfl⟩ := hs.head (by omega)
    obtain ⟨vs, hrow, hc, ho⟩ : ∃ vs, RowV w ok vs l ∧ (∀ j u, vs[j]? = some u → w.cell? ⟨b, o + j, none⟩ = some u) ∧ ∀ u ∈ vs, u.oneCell' = true := by
      obtain ⟨h1, h2, h3, b', o', h4, h5⟩ := hs
      have := (h4 (by omega)).1
      simp only [Option.some.injEq, Addr.mk.injEq, and_true] at this
      obtain ⟨rfl, rfl⟩ := this
      exact RowAt.vals l b o h5
    obtain ⟨i0, hi, hz0, hz1, hz2⟩ := info_parts item_info
    have hvl := hrow.length
    have hlb : len ≤ 1000000000000 := by omega
    have HLEN := Lib.hid hlen
    have HS := Lib.hid hs
    have HROW := Lib.hid hrow
    have HC := Lib.hid hc
    have HO := Lib.hid ho
    have HVL := Lib.hid hvl
    clear hlen hs hrow hc ho hvl
    have hpos : 0 < len := by omega
    clear h0
    have hnews : ∀ w' : World, Below w.heap.size w w' → ∀ j u, vs[j]? = some u → w'.cell? ((⟨b, o, none⟩ : Addr).add j) = some u := fun w' hb j u hj => by
      have e : (⟨b, o, none⟩ : Addr).add j = ⟨b, o + j, none⟩ := by unfold Addr.add; split <;> simp_all
      rw [e]
      exact cell_kept hb (Nat.le_refl _) (HC.out j u hj)
    have HNEWS := Lib.hid hnews
    clear hnews
    go_enter Try.func31, Try.ntmps31
    go_wp2_with (at_builtin; refine wpList_append_lies _ rfl (.tmp 4) (.tmp 5) 51 rfl (w.heap.size + 1) 53 i0 _ 4 64 Try.underlying51 hi hz0 hz1 hz2 rfl (by decide) _ 0 [] rfl (World.ownsRow_nil _ _ _ _) ⟨b, o, none⟩ len cap vs rfl ?h1 ?h2 HO.out hpos ?h4 ?h5 ?h6 _ rfl ?_)
    case h1 => have := HVL.out; have := HLEN.out; omega
    case h2 => exact HNEWS.out _ ((Below.refl _ _).alloc (Nat.le_refl _) _)
    case h4 => unfold maxLen; omega
    case h5 => omega
    case h6 => simp
    intro g cap7 w7 hown7 hgrow7 hat7 hlt7
    have hb7 : Below w.heap.size w w7 := ((Below.refl _ _).alloc (Nat.le_refl _) _).grown hgrow7 (by simp) (fun k e => by cases e)
    have hres : w7.heap[w.heap.size]? = some (.cells #[.int .i64 0, .string ⟨#[]⟩, .string ⟨#[]⟩, .slice none 0 0] 53 (0, 0)) := by
      rw [hgrow7.block _ (by simp) (fun e => by cases e)]
      exact heap_alloc_new _ _
    have hfin : SlAt w7 (fun b => b ≠ w.heap.size) (some ⟨g, 0, none⟩) len cap7 l := by
      refine (RowV.slice (vs := vs) (RowV.low (ok' := fun b => b ≠ w.heap.size) (fun b h => by omega) _ _ (RowV.keep (fun b h _ => ?_) _ _ (RowV.bound _ _ HROW.out))) hown7 (fun g' e => ?_)).2
      · exact hb7.block b h.2
      · have := (hown7.lt _ e).1; omega
    obtain ⟨rc0, rc1, rc2, rc3⟩ := four_cells hres
    obtain ⟨rf0, rf1, rf2, rf3⟩ := four_free hres
    have HB7 := Lib.hid hb7
    have HRES := Lib.hid hres
    have HFIN := Lib.hid hfin
    clear hb7 hres hfin hown7 hgrow7 hat7 hlt7
    go_wp2
    have HE := Lib.hid (four_cells (set4_block HRES.out (.int .i64 2) (.string ⟨#[]⟩) (.string ⟨#[]⟩) (.slice (some ⟨g, 0, none⟩) len cap7)))
    have HK := Lib.hid (HFIN.out.keep (w' := set4 w7 w.heap.size (.int .i64 2) (.string ⟨#[]⟩) (.string ⟨#[]⟩) (.slice (some ⟨g, 0, none⟩) len cap7)) (fun b hb _ => set4_other _ _ _ _ hb))
    have HBE := Lib.hid (set4_below (B := w.heap.size) HB7.out (b := w.heap.size) (Nat.le_refl _) (.int .i64 2) (.string ⟨#[]⟩) (.string ⟨#[]⟩) (.slice (some ⟨g, 0, none⟩) len cap7))
    unfold set4 at HE HK HBE
    obtain ⟨wf, hwf⟩ : ∃ wf, (((w7.setCell ⟨w.heap.size, 0, none⟩ (.int .i64 2)).setCell ⟨w.heap.size, 1, none⟩ (.string ⟨#[]⟩)).setCell ⟨w.heap.size, 2, none⟩ (.string ⟨#[]⟩)).setCell ⟨w.heap.size, 3, none⟩ (.slice (some ⟨g, 0, none⟩) len cap7) = wf := ⟨_, rfl⟩
    rw [hwf] at HE HK HBE ⊢
    obtain ⟨q0, q1, q2, q3⟩ := HE.out
    exact bodyPost_ret (v := .agg #[.int .i64 2, .string ⟨#[]⟩, .string ⟨#[]⟩, .slice (some ⟨g, 0, none⟩) len cap7]) (by simp [results, Try.results31, go_sem, q0, q1, q2, q3]) rfl ⟨_, rfl, ⟨_, _, _, rfl, HK.out.low (fun b hb => trivial)⟩, HBE.out⟩
end Go.Proofs.Ytelhpdlegjgjjaa

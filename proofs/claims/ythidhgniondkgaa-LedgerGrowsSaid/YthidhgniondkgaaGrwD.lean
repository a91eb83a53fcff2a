/- Walk: the law LedgerGrows. -/
import Derived.Test.YthidhgniondkgaaGrwC
import Derived.Laws.AppendOwnNone
set_option linter.unusedVariables false
set_option linter.unusedSimpArgs false
namespace Go.Proofs.Ythidhgniondkgaa
open Go.RowKit

set_option maxRecDepth 100000 in
set_option maxHeartbeats 2000000 in
theorem law_grows_big (l : List En) (A : Option Addr) (len cap : Nat) (w : World) (hs : SlE w A len cap l) (hf : fewB l = false) : Calls Try.prog 5 #[.slice A len cap] w (Ret (.bool true) w) := by
  have HFL := Lib.hid hf
  have HS := Lib.hid hs
  clear hf hs
  go_enter Try.func5, Try.ntmps5
  go_wp2_with fail
  refine (few_entries l _ len cap w HS.out).mono ?_
  rintro e0 w0 ⟨rfl, rfl⟩
  rw [HFL.out]
  go_wp2_with fail
  refine (awake_any _).mono ?_
  rintro e2 w2 ⟨rfl, hb2⟩
  have HB2 := Lib.hid hb2
  clear hb2
  go_wp2
  go_ret
  exact ⟨rfl, HB2.out⟩

/-- The first loop's head: the valid ledger so far. -/
def Gr1 (len : Nat) (w : World) (v i : Value) (wr : World) : Prop :=
  ∃ (k : Nat) (V : List En) (A : Option Addr) (n cap : Nat), k ≤ len ∧ i = .int .i64 k ∧ v = .slice A n cap ∧ SlE wr A n cap V ∧ ValidL V ∧ SzE V ∧ n ≤ k ∧ Below w.heap.size w wr
/-- The second loop's head: the members and those who wait. -/
def Gr2 (V : List En) (n B : Nat) (X : World) (now ep is i : Value) (wr : World) : Prop :=
  ∃ (k m a b ca cb : Nat) (Aa Ab : Option Addr) (nl il : List ByteArray), k ≤ n ∧ i = .int .i64 k ∧ ep = .int .i64 m ∧ now = .slice Aa a ca ∧ is = .slice Ab b cb ∧ epochN (V.take k) = m ∧ wr.ownsRow B 22 1 (.slice Aa a ca) a (nl.map Value.string) ∧ wr.ownsRow B 22 1 (.slice Ab b cb) b (il.map Value.string) ∧
    nl ++ il = memH (V.take k) ∧ ((Value.slice Aa a ca).ownBlock = none ∨ (Value.slice Aa a ca).ownBlock ≠ (Value.slice Ab b cb).ownBlock) ∧ Below B X wr
theorem dis_app {x y : Option Nat} {g H : Nat} (hd : x = none ∨ x ≠ y) (hat : y = some g ∨ g = H) (hlt : ∀ k, x = some k → k < H) : x = none ∨ x ≠ some g := by
  rcases hat with h | h
  · rw [← h]; exact hd
  · refine .inr fun e => ?_
    have := hlt g e
    omega
theorem dis_nil (x : Option Nat) : x = none ∨ x ≠ none := by cases x <;> simp
theorem dis_lt {x y : Option Nat} {H : Nat} (hx : ∀ k, x = some k → H ≤ k) (hy : ∀ k, y = some k → k < H) : x = none ∨ x ≠ y := by
  cases x with
  | none => exact .inl rfl
  | some a => exact .inr fun e => by have := hx a rfl; have := hy a e.symm; omega
theorem memH_le (l : List En) : (memH l).length ≤ l.length := memF_le _ _

theorem sze_snoc {V : List En} {e : En} (h : SzE V) (he : e.handle.size ≤ maxLen) : SzE (V ++ [e]) := fun k x hx => by
  rcases List.mem_append.1 (List.mem_of_getElem? hx) with h1 | h1
  · obtain ⟨j, hj⟩ := List.mem_iff_getElem?.1 h1
    exact h j x hj
  · rw [List.mem_singleton.1 h1]; exact he
theorem own_mono {w : World} {B B' : Nat} {T : TypeId} {sz n : Nat} {v : Value} {xs : List Value} (h : w.ownsRow B' T sz v n xs) (hB : B ≤ B') : w.ownsRow B T sz v n xs := by
  obtain ⟨h1, h2⟩ := h
  refine ⟨h1, ?_⟩
  rcases h2 with h2 | ⟨g, cap, cur, hv, hb, r⟩
  · exact .inl h2
  · exact .inr ⟨g, cap, cur, hv, Nat.le_trans hB hb, r⟩

theorem owns_belowB {w0 w w' : World} {B : Nat} {T : TypeId} {sz n : Nat} {v : Value} {xs : List Value} (h0 : w0.ownsRow B T sz v n xs) (hz : w0.heap.size ≤ w.heap.size) (h : w.ownsRow B T sz v n xs) (hb : Below w0.heap.size w w') : w'.ownsRow B T sz v n xs := by
  have hlt := h0.lt
  obtain ⟨h1, h2⟩ := h
  refine ⟨h1, ?_⟩
  rcases h2 with h2 | ⟨g, cap, cur, hv, hbg, hh, r⟩
  · exact .inl h2
  · refine .inr ⟨g, cap, cur, hv, hbg, ?_, r⟩
    rw [hb.block g (hlt g (by rw [hv]; rfl)).2]
    exact hh
theorem his_form {w : World} {B : Nat} {T : TypeId} {A : Option Addr} {n cap : Nat} {l : List ByteArray} (h : w.ownsRow B T 1 (.slice A n cap) n (l.map Value.string)) : (A = none ∧ n = 0 ∧ cap = 0 ∧ l = []) ∨ ∃ g, A = some ⟨g, 0, none⟩ := by
  rcases h.2 with ⟨hv, h0⟩ | ⟨g, cap', cur, hv, _⟩
  · simp only [Value.slice.injEq] at hv
    refine .inl ⟨hv.1, h0, hv.2.2, ?_⟩
    have := h.1
    rw [List.length_map, h0] at this
    exact List.length_eq_zero_iff.1 (by omega)
  · simp only [Value.slice.injEq] at hv
    exact .inr ⟨g, hv.1⟩

set_option maxRecDepth 100000 in
set_option maxHeartbeats 8000000 in
theorem law_grows_few (l : List En) (A : Option Addr) (len cap : Nat) (w : World) (hs : SlE w A len cap l) (hf : fewB l = true) : Calls Try.prog 5 #[.slice A len cap] w (Ret (.bool true) w) := by
  have hlen := hs.1
  have hlc := hs.2.1
  have hcap := hs.2.2.1
  have hl30 := (few_of hf).1
  rw [hlen] at hl30
  have hsm := (few_of hf).2
  have HFL := Lib.hid hf
  have HS := Lib.hid hs
  have HLEN := Lib.hid hlen
  have HSM := Lib.hid hsm
  clear hf hs hlen hsm
  go_enter Try.func5, Try.ntmps5
  go_wp2_with fail
  refine (few_entries l _ len cap w HS.out).mono ?_
  rintro e0 w0 ⟨rfl, rfl⟩
  rw [HFL.out]
  go_wp2
  go_loopw [3, 24] (fun v i wr => Gr1 len w v i wr) (fun _ i _ => len - (intOf i).toNat)
  case atStart => exact ⟨0, [], none, 0, 0, Nat.zero_le _, rfl, rfl, SlE.nil _ _ (by omega) _, ValidL.nil, fun k e h => by simp at h, Nat.le_refl _, Below.refl _ _⟩
  case round =>
    obtain ⟨k, V, A', n, cap', hk, rfl, rfl, hsv, hval, hszv, hn, hB⟩ := hrel
    have HSV := Lib.hid hsv
    have HVAL := Lib.hid hval
    have HSZV := Lib.hid hszv
    have HB := Lib.hid hB
    have hs1 := HS.out.kept hB (Nat.le_refl _)
    clear hsv hval hszv hB
    by_cases hlt : k < len
    · obtain ⟨b, o, rfl⟩ := hs1.head (by omega)
      obtain ⟨e, he⟩ : ∃ e, l[k]? = some e := ⟨_, List.getElem?_eq_getElem (by rw [HLEN.out]; exact hlt)⟩
      obtain ⟨c0, c1, c2, c3⟩ := hs1.get? k he
      obtain ⟨hh, hsc⟩ := HSM.out k e he
      have HH := Lib.hid (show e.handle.size ≤ maxLen from by unfold maxLen; omega)
      have HSC := Lib.hid (show e.schema.size ≤ 9223372036854775807 from by omega)
      clear hs1 he hh hsc
      have hkept := (HB.out.alloc HB.out.size (.cells #[.int .i64 e.kind, .string e.handle, .string e.schema, .int .i64 e.epoch] 24))
      have HKEPT := Lib.hid hkept
      have HSVA := Lib.hid (HSV.out.kept ((Below.refl wr.heap.size wr).alloc (Nat.le_refl _) (.cells #[.int .i64 e.kind, .string e.handle, .string e.schema, .int .i64 e.epoch] 24)) (Nat.le_refl _))
      clear hkept
      by_cases hfo : followsS V e = 0
      · have HFO := Lib.hid hfo
        clear hfo
        go_wp2_with fail
        refine (led_Append_ok V A' n cap' e _ HSVA.out (by omega) HSZV.out HH.out HSC.out HFO.out).mono ?_
        rintro e2 w2 ⟨A2, cap2, rfl, hs2, hb2⟩
        have HS2 := Lib.hid (show SlE w2 A2 (V.length + 1) cap2 (V ++ [e]) from by have := hs2; rw [List.length_append, List.length_singleton] at this; exact this)
        have HB2 := Lib.hid (HKEPT.out.trans (hb2.mono (by have := HB.out.size; simp; omega)))
        clear hs2 hb2
        go_wp2
        go_roundw
        case rel => exact ⟨k + 1, V ++ [e], A2, _, cap2, by omega, by go_num, rfl, HS2.out, HVAL.out.snoc HFO.out, sze_snoc HSZV.out HH.out, by have := HSV.out.1; simp; omega, HB2.out⟩
        case measure => simp [intOf]; omega
      · obtain ⟨f, hfv⟩ : ∃ f, followsS V e = f := ⟨_, rfl⟩
        rw [hfv] at hfo
        have hf0 := neI hfo
        have HFO := Lib.hid hfo
        have HFV := Lib.hid hfv
        clear hfo hfv
        go_wp2_with fail
        refine (led_Append_eq V A' n cap' e _ HSVA.out (by omega) HSZV.out HH.out HSC.out HFV.out HFO.out).mono ?_
        rintro e2 w2 ⟨A2, cap2, rfl, hs2, hb2⟩
        have HSV2 := Lib.hid (HSVA.out.kept hb2 (Nat.le_refl _))
        have HB2 := Lib.hid (HKEPT.out.trans (hb2.mono (by have := HB.out.size; simp; omega)))
        clear hs2 hb2
        go_wp2
        go_roundw
        case rel => exact ⟨k + 1, V, A', n, cap', by omega, by go_num, rfl, HSV2.out, HVAL.out, HSZV.out, by omega, HB2.out⟩
        case measure => simp [intOf]; omega
    · obtain rfl : k = len := by omega
      obtain ⟨X, hX⟩ : ∃ X : World, X = wr := ⟨_, rfl⟩
      subst hX
      have hn30 : n ≤ 30 := by omega
      have hvl := HSV.out.1
      have hvc := HSV.out.2.1
      have hvm := HSV.out.2.2.1
      have HVL := Lib.hid hvl
      clear hs1 hvl
      go_wp2
      go_loopw [8, 9, 10, 41] (fun now ep is i wr => Gr2 V n X.heap.size X now ep is i wr) (fun _ _ _ i _ => n - (intOf i).toNat)
      case atStart => exact ⟨0, 0, 0, 0, 0, 0, none, _, [], [], Nat.zero_le _, rfl, rfl, rfl, rfl, rfl, World.ownsRow_nil _ _ _ _, World.ownsRow_made _ _ _ (Nat.le_refl _) (by unfold maxLen; omega) rfl, rfl, .inl rfl, (Below.refl _ _).alloc (Nat.le_refl _) _⟩
      case round =>
        obtain ⟨k, m, a, b, ca, cb, Aa, Ab, nl, il, hk, rfl, rfl, rfl, rfl, hep, hno, his, hm, hdis, hBx⟩ := hrel
        have hml : m ≤ k := by have := epochN_le (V.take k); rw [List.length_take] at this; omega
        have hab : a + b ≤ k := by
          have h1 := memH_le (V.take k)
          rw [← hm, List.length_append, List.length_take] at h1
          have h2 := hno.1
          have h3 := his.1
          rw [List.length_map] at h2 h3
          omega
        have HEP := Lib.hid hep
        clear hep
        have HNO := Lib.hid hno
        have HIS := Lib.hid his
        have HM := Lib.hid hm
        have HDIS := Lib.hid hdis
        have HBX := Lib.hid hBx
        have HSV1 := Lib.hid (HSV.out.kept hBx (Nat.le_refl _))
        clear hno his hm hdis hBx
        by_cases hlt : k < n
        · obtain ⟨bv, ov, rfl⟩ := HSV1.out.head (by omega)
          obtain ⟨e, he⟩ : ∃ e, V[k]? = some e := ⟨_, List.getElem?_eq_getElem (by have := HVL.out; omega)⟩
          obtain ⟨c0, c1, c2, c3⟩ := HSV1.out.get? k he
          have hkind := valid_kind HVAL.out he
          have HE := Lib.hid he
          have HSZ := Lib.hid (HSZV.out k e he)
          have hes := epochN_snoc he
          rw [HEP.out] at hes
          clear he
          obtain ⟨i0, hi, iz0, iz1, iz2⟩ := info_parts nat_info
          rcases hkind with h0 | h0 | h0
          · have e0 := eqI h0
            have HMM := Lib.hid (memH_issued HVAL.out HE.out h0)
            rw [if_neg (by omega), Nat.add_zero] at hes
            have HES := Lib.hid hes
            have HBXA := Lib.hid ((HBX.out.alloc HBX.out.size (.cells #[.int .i64 e.kind, .string e.handle, .string e.schema, .int .i64 e.epoch] 24)).alloc (by have := HBX.out.size; simp; omega) (.cells #[.string e.handle] 22))
            have HNOA := Lib.hid ((HNO.out.alloc (.cells #[.int .i64 e.kind, .string e.handle, .string e.schema, .int .i64 e.epoch] 24)).alloc (.cells #[.string e.handle] 22))
            clear h0 hes
            go_wp2_with (at_builtin; refine wpList_append_lies _ rfl (.tmp 49) (.tmp 52) 38 rfl X.heap.size 22 i0 _ 1 16 Try.underlying38 hi iz0 iz1 iz2 rfl (by decide) (.slice Ab b cb) b (il.map Value.string) rfl ?n0 ⟨wr.heap.size + 1, 0, none⟩ 1 1 [.string e.handle] rfl rfl ?n1 ?n2 (by decide) ?n3 ?n4 ?n5 _ rfl ?_)
            case n0 => exact (HIS.out.alloc _).alloc _
            case n1 => rw [show wr.heap.size + 1 = (wr.alloc (.cells #[.int .i64 e.kind, .string e.handle, .string e.schema, .int .i64 e.epoch] 24)).heap.size from by simp]; exact World.news_of_block (heap_alloc_new _ _)
            case n2 => intro u hu; simp only [List.mem_cons, List.mem_nil_iff, or_false] at hu; subst hu; rfl
            case n3 => unfold maxLen; omega
            case n4 => omega
            case n5 => have := HBX.out.size; simp; omega
            intro g cap7 w7 hown7 hgrow7 hat7 hlt7
            have hd7 := dis_app HDIS.out hat7 (fun x hx => by have := (HNO.out.lt x hx).2; simp; omega)
            have HD7 := Lib.hid hd7
            have HNO7 := Lib.hid (HNOA.out.kept hgrow7 HDIS.out)
            have hil := HIS.out.lt
            have HB7 := Lib.hid (HBXA.out.grown hgrow7 HBXA.out.size (fun x e => (hil x e).1))
            have HOWN7 := Lib.hid hown7
            clear hown7 hgrow7 hat7 hlt7 hd7 hil
            go_wp2
            go_roundw
            case rel => exact ⟨k + 1, m, a, b + 1, ca, cap7, Aa, _, nl, il ++ [e.handle], by omega, by go_num, rfl, rfl, rfl, HES.out, HNO7.out, by rw [List.map_append]; exact HOWN7.out, by rw [HMM.out, ← List.append_assoc, HM.out], HD7.out, HB7.out⟩
            case measure => simp [intOf]; omega
          · have e0 := neI (show e.kind ≠ 0 by omega)
            have e1 := eqI h0
            have HMM := Lib.hid (memH_revoked HE.out h0)
            rw [if_neg (by omega), Nat.add_zero] at hes
            have HES := Lib.hid hes
            obtain ⟨W1, hW1⟩ : ∃ W1, wr.alloc (.cells #[.int .i64 e.kind, .string e.handle, .string e.schema, .int .i64 e.epoch] 24) = W1 := ⟨_, rfl⟩
            have hbA : Below wr.heap.size wr W1 := by rw [← hW1]; exact (Below.refl _ _).alloc (Nat.le_refl _) _
            have hszA : wr.heap.size < W1.heap.size := by rw [← hW1]; simp
            have hcA : W1.cell? ⟨wr.heap.size, 1, none⟩ = some (.string e.handle) := by rw [← hW1, World.cell?_alloc_at (hn := rfl)]; rfl
            have HISA := Lib.hid (owns_kept HIS.out hbA (Nat.le_refl _))
            have HNOA := Lib.hid (owns_kept HNO.out hbA (Nat.le_refl _))
            have HBXA := Lib.hid (HBX.out.trans (hbA.mono HBX.out.size))
            have HCA := Lib.hid hcA
            have HWA := Lib.hid hW1
            obtain ⟨hlb, A5, c5, hv5, hs5⟩ := SlN.of_owns HISA.out
            simp only [Value.slice.injEq, true_and] at hv5
            obtain ⟨rfl, rfl⟩ := hv5
            have HS5 := Lib.hid hs5
            clear h0 hes hbA hcA hW1 hlb hs5
            go_wp2_with fail
            rw [HWA.out]
            refine (cl_nats il Ab b cb W1 HS5.out (by omega)).mono ?_
            rintro e6 w6 ⟨v6, rfl, hown6, hb6⟩
            obtain ⟨hl6, A6, c6, rfl, _⟩ := SlN.of_owns hown6
            have hsz6 := hb6.size
            have HC6 := Lib.hid (cell_kept hb6 (Nat.le_refl _) HCA.out)
            have HNO6 := Lib.hid (owns_kept HNOA.out hb6 (Nat.le_refl _))
            have HB6 := Lib.hid (HBXA.out.trans (hb6.mono HBXA.out.size))
            have HOWN6 := Lib.hid hown6
            clear hown6 hb6 hl6
            go_wp2_with fail
            refine (del_any il A6 b c6 e.handle wr.heap.size W1.heap.size w6 HOWN6.out hszA hsz6 HC6.out).mono ?_
            rintro e7 w7 ⟨A7, n7, c7, rfl, hn7, hown7, hb7⟩
            have hsz7 : W1.heap.size ≤ w7.heap.size := Nat.le_trans hsz6 hb7.size
            have hnl7 : n7 ≤ b := by rw [← hn7]; have := keepF_le e.handle il; have := HIS.out.1; rw [List.length_map] at this; omega
            have hcell7 : w7.cell? ⟨wr.heap.size, 1, none⟩ = some (.string e.handle) := by rw [hb7.cell (p := ⟨wr.heap.size, 1, none⟩) hszA]; exact HC6.out
            have HC7 := Lib.hid hcell7
            have HNO7 := Lib.hid (owns_belowB HNOA.out hsz6 HNO6.out hb7)
            have HB7 := Lib.hid (HB6.out.trans (hb7.mono (Nat.le_trans HBXA.out.size (Nat.le_refl _))))
            have HOWN7 := Lib.hid hown7
            clear hown7 hb7 hn7 hcell7
            obtain ⟨hla, A8, c8, hv8, hs8⟩ := SlN.of_owns HNO7.out
            simp only [Value.slice.injEq, true_and] at hv8
            obtain ⟨rfl, rfl⟩ := hv8
            have HS8 := Lib.hid hs8
            clear hla hs8
            go_wp2_with fail
            refine (cl_nats nl Aa a ca w7 HS8.out (by omega)).mono ?_
            rintro e9 w9 ⟨v9, rfl, hown9, hb9⟩
            obtain ⟨hl9, A9, c9, rfl, _⟩ := SlN.of_owns hown9
            have hsz9 := hb9.size
            have HC9 := Lib.hid (cell_kept hb9 (Nat.le_refl _) HC7.out)
            have HOWN9i := Lib.hid (owns_kept HOWN7.out hb9 (Nat.le_refl _))
            have HB9 := Lib.hid (HB7.out.trans (hb9.mono HB7.out.size))
            have HOWN9 := Lib.hid hown9
            clear hown9 hb9 hl9
            go_wp2_with fail
            refine (del_any nl A9 a c9 e.handle wr.heap.size w7.heap.size w9 HOWN9.out (by omega) hsz9 HC9.out).mono ?_
            rintro e10 w10 ⟨A10, n10, c10, rfl, hn10, hown10, hb10⟩
            have hnl10 : n10 ≤ a := by rw [← hn10]; have := keepF_le e.handle nl; have := HNO.out.1; rw [List.length_map] at this; omega
            have HI10 := Lib.hid (own_mono (owns_belowB HOWN7.out hsz9 HOWN9i.out hb10) (Nat.le_trans HBXA.out.size (Nat.le_refl _)))
            have HN10 := Lib.hid (own_mono hown10 (Nat.le_trans HB7.out.size (Nat.le_refl _)))
            have hi7 := HOWN7.out.lt
            have hd10 := dis_lt (H := w7.heap.size) (fun x hx => (hown10.lt x hx).1) (fun x hx => (hi7 x hx).2)
            have HD10 := Lib.hid hd10
            have HB10 := Lib.hid (HB9.out.trans (hb10.mono (Nat.le_trans HB7.out.size (Nat.le_refl _))))
            clear hown10 hb10 hn10 hd10 hi7
            go_wp2
            go_roundw
            case rel => exact ⟨k + 1, m, n10, n7, c10, c7, A10, A7, keepF e.handle nl, keepF e.handle il, by omega, by go_num, rfl, rfl, rfl, HES.out, HN10.out, HI10.out, by rw [HMM.out, ← keepF_append, HM.out], HD10.out, HB10.out⟩
            case measure => simp [intOf]; omega
          · have e0 := neI (show e.kind ≠ 0 by omega)
            have e1 := neI (show e.kind ≠ 1 by omega)
            have e2 := eqI h0
            have HMM := Lib.hid (memH_closed HE.out h0)
            have HMC := Lib.hid (mem_closed HE.out h0 HEP.out)
            rw [if_pos h0] at hes
            have HES := Lib.hid hes
            clear h0 hes
            have HBXA := Lib.hid (HBX.out.alloc HBX.out.size (.cells #[.int .i64 e.kind, .string e.handle, .string e.schema, .int .i64 e.epoch] 24))
            have HNOA := Lib.hid (HNO.out.alloc (.cells #[.int .i64 e.kind, .string e.handle, .string e.schema, .int .i64 e.epoch] 24))
            have HISA := Lib.hid (HIS.out.alloc (.cells #[.int .i64 e.kind, .string e.handle, .string e.schema, .int .i64 e.epoch] 24))
            have hrl : (memH (V.take k)).length = a + b := by rw [← HM.out, List.length_append]; have h2 := HNO.out.1; have h3 := HIS.out.1; rw [List.length_map] at h2 h3; omega
            have HRL := Lib.hid hrl
            clear hrl
            rcases his_form HISA.out with ⟨rfl, rfl, rfl, hil⟩ | ⟨g, rfl⟩
            · have HIL := Lib.hid hil
              clear hil
              go_wp2_with (at_builtin; refine wpList_append_own_none rfl (.tmp 67) (.tmp 68) 38 rfl X.heap.size 22 i0 1 Try.underlying38 hi (.slice Aa a ca) a (nl.map Value.string) rfl HNOA.out rfl ?_)
              obtain ⟨W2, hW2⟩ : ∃ W2, wr.alloc (.cells #[.int .i64 e.kind, .string e.handle, .string e.schema, .int .i64 e.epoch] 24) = W2 := ⟨_, rfl⟩
              have hall : W2.ownsRow X.heap.size 22 1 (.slice Aa a ca) a ((memH (V.take k)).map Value.string) := by
                rw [← HM.out, HIL.out, List.append_nil, ← hW2]; exact HNOA.out
              have hbx2 : Below X.heap.size X W2 := by rw [← hW2]; exact HBXA.out
              rw [hW2]
              clear hW2
              have hsz2 := hbx2.size
              have HSV2 := Lib.hid (HSV.out.kept hbx2 (Nat.le_refl _))
              have HBX2 := Lib.hid hbx2
              have HALL := Lib.hid hall
              clear hbx2 hall
              go_wp2_with fail
              refine (led_Members_eq V _ n cap' ((m : Int) + 1) W2 HSV2.out (by omega) HSZV.out (by omega) HMC.out).mono ?_
              rintro e3 w3 ⟨A3, c3, rfl, hs3, hb3⟩
              have hrl2 : (memH (V.take k)).length = a := by have := HRL.out; omega
              rw [hrl2] at hs3 ⊢
              have HALL3 := Lib.hid (owns_kept HALL.out hb3 (Nat.le_refl _))
              have HSV3 := Lib.hid hs3
              have HBX3 := Lib.hid (HBX2.out.trans (hb3.mono HBX2.out.size))
              obtain ⟨_, A4, c4, hv4, hs4⟩ := SlN.of_owns HALL3.out
              simp only [Value.slice.injEq, true_and] at hv4
              obtain ⟨rfl, rfl⟩ := hv4
              have HS4 := Lib.hid hs4
              clear hs3 hb3 hs4 hrl2
              go_wp2_with fail
              refine (eq_nats (memH (V.take k)) A3 Aa a c3 ca w3 HSV3.out HS4.out).mono ?_
              rintro e5 w5 ⟨rfl, hb5⟩
              have HALL5 := Lib.hid (owns_kept HALL3.out hb5 (Nat.le_refl _))
              have HBX5 := Lib.hid (HBX3.out.trans (hb5.mono HBX3.out.size))
              clear hb5
              go_wp2
              go_roundw
              case rel => exact ⟨k + 1, m + 1, a, 0, ca, 0, Aa, none, memH (V.take k), [], by omega, by go_num, by go_num, rfl, rfl, HES.out, HALL5.out, World.ownsRow_nil _ _ _ _, by rw [HMM.out, List.append_nil], dis_nil _, HBX5.out⟩
              case measure => simp [intOf]; omega
            · obtain ⟨hcs⟩ : Nonempty (∀ j u, (il.map Value.string)[j]? = some u → (wr.alloc (.cells #[.int .i64 e.kind, .string e.handle, .string e.schema, .int .i64 e.epoch] 24)).cell? ((⟨g, 0, none⟩ : Addr).add j) = some u) := ⟨HISA.out.cells rfl⟩
              have HCS := Lib.hid hcs
              clear hcs
              have HLI := Lib.hid (HIS.out.1)
              go_wp2_with (at_builtin; refine wpList_append_own _ rfl (.tmp 67) (.tmp 68) 38 rfl X.heap.size 22 i0 _ 1 16 Try.underlying38 hi iz0 iz1 iz2 rfl (by decide) (.slice Aa a ca) a (nl.map Value.string) rfl HNOA.out ⟨g, 0, none⟩ b cb (il.map Value.string) rfl HLI.out HCS.out (strs_one il) ?n3 ?n4 ?n5 ?_)
              case n3 => unfold maxLen; omega
              case n4 => omega
              case n5 => have := HBX.out.size; simp; omega
              intro v' W2 hown2 hgrow2 _
              have hall : W2.ownsRow X.heap.size 22 1 v' (a + b) ((memH (V.take k)).map Value.string) := by rw [← HM.out, List.map_append]; exact hown2
              have hno2 := HNO.out.lt
              have hbx2 := HBXA.out.grown hgrow2 HBXA.out.size (fun x e => (hno2 x e).1)
              clear hown2 hgrow2 hno2
              obtain ⟨_, A2, c2, rfl, _⟩ := SlN.of_owns hall
              have hsz2 := hbx2.size
              have HSV2 := Lib.hid (HSV.out.kept hbx2 (Nat.le_refl _))
              have HBX2 := Lib.hid hbx2
              have HALL := Lib.hid hall
              clear hbx2 hall
              go_wp2_with fail
              refine (led_Members_eq V _ n cap' ((m : Int) + 1) W2 HSV2.out (by omega) HSZV.out (by omega) HMC.out).mono ?_
              rintro e3 w3 ⟨A3, c3, rfl, hs3, hb3⟩
              have hrl2 : (memH (V.take k)).length = (a + b) := by have := HRL.out; omega
              rw [hrl2] at hs3 ⊢
              have HALL3 := Lib.hid (owns_kept HALL.out hb3 (Nat.le_refl _))
              have HSV3 := Lib.hid hs3
              have HBX3 := Lib.hid (HBX2.out.trans (hb3.mono HBX2.out.size))
              obtain ⟨_, A4, c4, hv4, hs4⟩ := SlN.of_owns HALL3.out
              simp only [Value.slice.injEq, true_and] at hv4
              obtain ⟨rfl, rfl⟩ := hv4
              have HS4 := Lib.hid hs4
              clear hs3 hb3 hs4 hrl2
              go_wp2_with fail
              refine (eq_nats (memH (V.take k)) A3 A2 (a + b) c3 c2 w3 HSV3.out HS4.out).mono ?_
              rintro e5 w5 ⟨rfl, hb5⟩
              have HALL5 := Lib.hid (owns_kept HALL3.out hb5 (Nat.le_refl _))
              have HBX5 := Lib.hid (HBX3.out.trans (hb5.mono HBX3.out.size))
              clear hb5
              go_wp2
              go_roundw
              case rel => exact ⟨k + 1, m + 1, (a + b), 0, c2, 0, A2, none, memH (V.take k), [], by omega, by go_num, by go_num, rfl, rfl, HES.out, HALL5.out, World.ownsRow_nil _ _ _ _, by rw [HMM.out, List.append_nil], dis_nil _, HBX5.out⟩
              case measure => simp [intOf]; omega
        · obtain rfl : k = n := by omega
          have hep := HEP.out
          rw [List.take_of_length_le (by have := HVL.out; omega)] at hep
          have HMB := Lib.hid (mem_beyond hep)
          clear hep
          go_wp2_with fail
          refine (led_Members_eq V A' k cap' ((m : Int) + 1) _ HSV1.out (by omega) HSZV.out (by omega) HMB.out).mono ?_
          rintro e3 w3 ⟨A3, cap3, rfl, hs3, hb3⟩
          have HB3 := Lib.hid (HB.out.trans ((HBX.out.trans (hb3.mono HBX.out.size)).mono HB.out.size))
          clear hs3 hb3
          go_wp2_with fail
          refine (awake_any _).mono ?_
          rintro e4 w4 ⟨rfl, hb4⟩
          have HB4 := Lib.hid (HB3.out.trans (hb4.mono HB3.out.size))
          clear hb4
          go_wp2
          go_ret
          exact ⟨rfl, HB4.out⟩
end Go.Proofs.Ythidhgniondkgaa

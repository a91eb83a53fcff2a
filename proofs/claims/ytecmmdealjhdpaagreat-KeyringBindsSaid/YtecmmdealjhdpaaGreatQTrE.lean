/- Walks: transcript.framed for strings and for numbers. -/
import Derived.Test.YtecmmdealjhdpaaGreatQTrC
import Derived.Test.YtecmmdealjhdpaaGreatQRowN
import Derived.ArgAppend
set_option linter.unusedVariables false
set_option linter.unusedSimpArgs false
namespace Go.Proofs.YtecmmdealjhdpaaGreat
open Go.RowKit Go.Lib
def SlS (w : World) (A : Option Addr) (n c : Nat) (l : List ByteArray) : Prop :=
  SlN w A n c l ∧ (A = none → c = 0) ∧ ∀ b o, A = some ⟨b, o, none⟩ → ∃ cs fr, w.heap[b]? = some (.cells cs 9 fr)
theorem SlS.kept {w w' : World} {A : Option Addr} {n c : Nat} {l : List ByteArray} (h : SlS w A n c l) (hb : Below w.heap.size w w') : SlS w' A n c l :=
  ⟨h.1.kept hb (Nat.le_refl _), h.2.1, fun b o e => by obtain ⟨cs, fr, hc⟩ := h.2.2 b o e; exact ⟨cs, fr, (hb.block b (block_lt hc)).trans hc⟩⟩
theorem cell_keepS {w w' : World} {b k : Nat} {cs : Array Value} {fr : Nat × Nat} (hk : KeepS w w') (hc : w.heap[b]? = some (.cells cs 9 fr)) : w'.cell? ⟨b, k, none⟩ = w.cell? ⟨b, k, none⟩ := by
  unfold World.cell?
  rw [hk b cs fr hc, hc]
theorem SlS.keptS {w w' : World} {A : Option Addr} {n c : Nat} {l : List ByteArray} (h : SlS w A n c l) (hk : KeepS w w') : SlS w' A n c l := by
  obtain ⟨⟨h1, h2, h3, b, o, h4, h5⟩, h6, h7⟩ := h
  refine ⟨⟨h1, h2, h3, b, o, h4, fun k s hs => ?_⟩, h6, fun b o e => by obtain ⟨cs, fr, hc⟩ := h7 b o e; exact ⟨cs, fr, hk _ _ _ hc⟩⟩
  have hlt : k < l.length := (List.getElem?_eq_some_iff.1 hs).1
  obtain ⟨cs, fr, hc⟩ := h7 b o (h4 (by omega))
  rw [cell_keepS hk hc]
  exact h5 k s hs
theorem SlS.of_owns {w : World} {base : Nat} {v : Value} {n : Nat} {l : List ByteArray} (h : w.ownsRow base 9 1 v n (l.map Value.string)) : ∃ A cap, v = .slice A n cap ∧ SlS w A n cap l := by
  obtain ⟨hl, A, cap, rfl, hs⟩ := SlN.of_owns h
  refine ⟨A, cap, rfl, hs, fun e => ?_, fun b o e => ?_⟩
  · subst e
    rcases h.2 with ⟨hv, _⟩ | ⟨g, c, cur, hv, _⟩
    · cases hv; rfl
    · cases hv
  · subst e
    rcases h.2 with ⟨hv, _⟩ | ⟨g, c, cur, hv, _, hg, _⟩
    · cases hv
    · cases hv; exact ⟨_, _, hg⟩
def dt (l : List ByteArray) : List (List UInt8) := l.map fun s => s.data.toList
theorem dt_snoc (l : List ByteArray) (s : ByteArray) : dt (l ++ [s]) = dt l ++ [s.data.toList] := by simp [dt]
theorem dt_length (l : List ByteArray) : (dt l).length = l.length := by simp [dt]
theorem take_snocT {α : Type} {l : List α} {k : Nat} {y : α} (h : l[k]? = some y) : l.take (k + 1) = l.take k ++ [y] := by
  obtain ⟨h1, rfl⟩ := List.getElem?_eq_some_iff.1 h
  exact List.take_succ_eq_append_getElem h1
theorem str_info : (Tryz.prog.info? 9).map (fun i => (i.zero, i.size, i.bytes)) = some (some (.string ⟨#[]⟩), 1, 16) := by kernel_rfl
theorem ptL_le {l : List ByteArray} {m : Nat} (h : ∀ s ∈ l, s.size ≤ m) (k : Nat) : (ptL (dt (l.take k))).length ≤ l.length * (8 + m) := by
  rw [ptL_length, dt_length]
  have h1 : ((dt (l.take k)).map List.length).sum ≤ (dt (l.take k)).length * m := sum_le_all fun s hs => by
    obtain ⟨x, hx, rfl⟩ := List.mem_map.1 hs
    have := h x (List.mem_of_mem_take hx)
    simpa [data_len] using this
  rw [dt_length] at h1
  have h2 : (l.take k).length ≤ l.length := by rw [List.length_take]; omega
  calc 8 * (l.take k).length + ((dt (l.take k)).map List.length).sum ≤ 8 * (l.take k).length + (l.take k).length * m := Nat.add_le_add_left h1 _
    _ = (l.take k).length * (8 + m) := by rw [Nat.mul_add, Nat.mul_comm]
    _ ≤ l.length * (8 + m) := Nat.mul_le_mul_right _ h2
set_option maxRecDepth 100000 in
theorem tr_idS (s : ByteArray) (w : World) : Calls Tryz.prog 82 #[.string s] w fun e w' => e = .returned (.string s) ∧ w = w' := by
  go_enter Tryz.func82, Tryz.ntmps82
  go_wp2
  go_ret
  exact ⟨rfl, rfl⟩
set_option maxRecDepth 100000 in
theorem tr_idN (s : ByteArray) (w : World) : Calls Tryz.prog 66 #[.string s] w fun e w' => e = .returned (.string s) ∧ w = w' := by
  go_enter Tryz.func66, Tryz.ntmps66
  go_wp2
  go_ret
  exact ⟨rfl, rfl⟩
theorem full_run {ρ : Operand → Value} {o : Oper} (x y z : Operand) (hop : o.op = Op.slice 127 x none (some y) (some z)) {A : Option Addr} {N c : Nat} (hx : ρ x = .slice A N c) (hy : ρ y = .int .i64 (N : Int)) (hz : ρ z = .int .i64 (N : Int)) (h : N ≤ c) (w : World) : Sem.run Tryz.prog (execOp ρ o) w = Result.ok (.value (.slice A N N)) w := by
  obtain ⟨i0, hi, hz0, hz1, hz2⟩ := info_parts str_info
  have ht : Tryz.prog.underlying 127 = some (.slice (Tryz.prog.elem 127)) := by rw [show Tryz.prog.elem 127 = 9 from by kernel_rfl]; exact Tryz.underlying127
  have he : (if (N : Int).toNat = 0 then A else A.map fun x => x.add (0 * i0.size)) = A := by
    split
    · rfl
    · cases A with
      | none => rfl
      | some a => simp [Addr.add]
  have hs := run_slice_hm (P := Tryz.prog) w 127 A N c ht .i64 .i64 (N : Int) (N : Int) (by omega) (by omega) (by omega)
  unfold execOp
  simp only [hop, hx, hy, hz, Option.map_some, Option.map_none]
  rw [show Tryz.prog.elem 127 = 9 from by kernel_rfl] at hs ht
  simp [run_sliceAt_slice, go_sem, run_underlying ht, hs, sizeOf, typeInfo, hi, sliced, he, Result.andThen]
set_option maxRecDepth 100000 in
set_option maxHeartbeats 4000000 in
theorem tr_framedS (k : UInt8) (A0 : Option Addr) (n0 c0 : Nat) (l0 : List ByteArray) (A1 : Option Addr) (n1 c1 : Nat) (l1 : List ByteArray) (hn : n0 + n1 ≤ 1000) (hz : ∀ s ∈ l0 ++ l1, s.size ≤ 1000000) (w : World) (h0 : SlS w A0 n0 c0 l0) (h1 : SlN w A1 n1 c1 l1) :
    Calls Tryz.prog 81 #[.int .u8 (k.toNat : Int), .slice A0 n0 c0, .slice A1 n1 c1, .func (.func 82) #[] #[]] w (Ret (.string (bstr (trH k (dt (l0 ++ l1))))) w) := by
  obtain ⟨i0, hi, hz0, hz1, hz2⟩ := info_parts str_info
  have hib := Lib.fresh_isBuilder 130 5 w
  have hb0 : Below w.heap.size w (w.alloc (.cells #[.pointer none, .slice none 0 0] 130)) := (Below.refl _ _).alloc (Nat.le_refl _) _
  obtain ⟨W0, hW0⟩ : ∃ W, w.alloc (.cells #[.pointer none, .slice none 0 0] 130) = W := ⟨_, rfl⟩
  have hzw : w.heap.size ≤ W0.heap.size := by rw [← hW0]; simp
  rw [hW0] at hib hb0
  have HIB := Lib.hid hib
  have HB0 := Lib.hid hb0
  have HS0 := Lib.hid (h0.kept hb0)
  have HM1 := Lib.hid h1
  have HZ0 := Lib.hid hzw
  have HSZ := Lib.hid hz
  have HN := Lib.hid hn
  have HL0 := Lib.hid h0.1.1
  have HL1 := Lib.hid h1.1
  clear hib hb0 h0 hzw hz h1
  go_enter Tryz.func81, Tryz.ntmps81
  go_wp2_with fail
  try rw [hW0]
  clear hW0
  refine (frb_WriteByte _ _ [] (k.toNat : Int) _ HIB.out (by simp) HZ0.out).mono ?_
  rintro e w1 ⟨rfl, hi1, hb1, hk1⟩
  have HI1 := Lib.hid (show IsBuilder 130 5 w.heap.size w.heap.size (byteCells [k]) w1 from hi1)
  have HB1 := Lib.hid (HB0.out.trans hb1)
  have HS1 := Lib.hid (HS0.out.keptS hk1)
  have HZ1 := Lib.hid (Nat.le_trans HZ0.out hb1.size)
  clear hi1 hb1 hk1
  have h8 := fr_eight w.heap.size w.heap.size (byteCells [k]) (n0 + n1) (by omega) w1 HI1.out (by simp [byteCells]) HZ1.out
  rw [Int.natCast_add] at h8
  have H8 := Lib.hid h8
  have hni : (n0 : Int) + (n1 : Int) ≤ 1000 := by omega
  clear h8 hn
  go_wp2_with fail
  refine H8.out.mono ?_
  rintro e w2 ⟨rfl, hi2, hb2, hk2⟩
  have HI2 := Lib.hid hi2
  have HB2 := Lib.hid (HB1.out.trans hb2)
  have HS2 := Lib.hid (HS1.out.keptS hk2)
  have HZ2 := Lib.hid (Nat.le_trans HZ1.out hb2.size)
  clear hi2 hb2 hk2
  obtain ⟨H, hH⟩ : ∃ H, byteCells [k] ++ byteCells (shE8 (n0 + n1)) = H := ⟨_, rfl⟩
  have HH := Lib.hid hH
  rw [hH] at HI2
  clear hH
  go_wp2
  go_loopw [1, 25] (fun v i wr => ∃ (j c : Nat) (A : Option Addr), j ≤ n1 ∧ i = .int .i64 j ∧ v = .slice A (n0 + j) c ∧ SlS wr A (n0 + j) c (l0 ++ l1.take j) ∧ IsBuilder 130 5 w.heap.size w.heap.size H wr ∧ Below w.heap.size w wr ∧ w.heap.size ≤ wr.heap.size) (fun _ i _ => n1 - (RowKit.intOf i).toNat)
  case atStart => exact ⟨0, c0, A0, Nat.zero_le _, rfl, rfl, by simpa using HS2.out, HI2.out, HB2.out, HZ2.out⟩
  case round =>
    obtain ⟨j, c, A, hj, rfl, rfl, hs, hib, hb, hzr⟩ := hrel
    have HS := Lib.hid hs
    have HIB := Lib.hid hib
    have HB := Lib.hid hb
    have HZR := Lib.hid hzr
    clear hs hib hb hzr
    by_cases hlt : j < n1
    · obtain ⟨b1, o1, rfl⟩ := HM1.out.head (by omega)
      obtain ⟨x, hx⟩ : ∃ x, l1[j]? = some x := ⟨_, List.getElem?_eq_getElem (by have := HL1.out; omega)⟩
      have hcx := (HM1.out.kept HB.out (Nat.le_refl _)).get? j hx
      have HX := Lib.hid hx
      obtain ⟨N, hN⟩ : ∃ N, n0 + j = N := ⟨_, rfl⟩
      have HNN := Lib.hid hN
      rw [hN] at HS ⊢
      have hNc : N ≤ c := HS.out.1.2.1
      have HLT := Lib.hid hlt
      clear hN hx hj
      go_wp2
      obtain ⟨wd, hwd⟩ : ∃ wd, wr.drew = wd := ⟨_, rfl⟩
      have hbd : Below wr.heap.size wr wd := by rw [← hwd]; exact (Below.refl _ _).drew
      have HSD := Lib.hid (HS.out.kept hbd)
      have HID := Lib.hid (show IsBuilder 130 5 w.heap.size w.heap.size H wd from by rw [← hwd]; exact frb_drew HIB.out)
      have HBD := Lib.hid (HB.out.trans (hbd.mono HZR.out))
      have HZD := Lib.hid (Nat.le_trans HZR.out hbd.size)
      clear hbd hcx
      refine wp_region_K 12 (fun _ => True) (by kernel_rfl) ?_
      intro hD
      rw [hwd]
      refine rP 0 29 11 rfl hD trivial ?_; clear hD; intro hD; simp only [Act.put, sqA, sqB, sqC]
      refine rP 1 30 10 rfl hD trivial ?_; clear hD; intro hD; simp only [Act.put, sqA, sqB, sqC]
      refine rP 2 31 9 rfl hD trivial ?_; clear hD; intro hD; simp only [Act.put, sqA, sqB, sqC]
      refine rP 3 32 8 rfl hD trivial ?_; clear hD; intro hD; simp only [Act.put, sqA, sqB, sqC]
      refine rP 4 33 7 rfl hD trivial ?_; clear hD; intro hD; simp only [Act.put, sqA, sqB, sqC]
      refine wpAnyK_takeSD (i := 5) (d := some 34) (v := (.slice A N N)) (fuel := 6) rfl (by kernel_rfl) (by kernel_rfl) (by kernel_rfl) (fun _ _ _ h => h) hD trivial (.inl ⟨by kernel_rfl, ?y7_5b1⟩) ?n7_5b1
      case y7_5b1 =>
        intro w' _
        exact full_run (.tmp 29) (.tmp 31) (.tmp 33) rfl rfl rfl rfl hNc w'
      clear hD; intro hD
      simp only [Act.put, sqA, sqB, sqC]
      refine rP 6 35 5 rfl hD trivial ?_; clear hD; intro hD; simp only [Act.put, sqA, sqB, sqC]
      refine rP 7 36 4 rfl hD trivial ?_; clear hD; intro hD; simp only [Act.put, sqA, sqB, sqC]
      refine rO 8 3 rfl hD ?_; clear hD; intro K8 hK8
      go_wp2_with fail
      refine (tr_idS x _).mono ?_
      rintro e w3 ⟨rfl, rfl⟩
      go_wp2
      refine hK8 _ _ (by trivial) ?_; clear hK8; intro hS_7_8 hD
      refine rO 9 2 rfl hD ?_; clear hD; intro K9 hK9
      go_wp2
      refine hK9 _ _ (by trivial) ?_; clear hK9; intro hS_7_9 hD
      refine rO 10 1 rfl hD ?_; clear hD; intro K10 hK10
      refine wpList_append_grows _ rfl (.tmp 34) (.tmp 38) 127 rfl 9 i0 (.string ⟨#[]⟩) 1 16 Tryz.underlying127 hi hz0 hz1 hz2 rfl (by decide) A N N ((l0 ++ l1.take j).map Value.string) rfl ?hnone ?hlo ?holds ⟨wd.heap.size, 0, none⟩ 1 1 [.string x] rfl rfl ?c1 ?c2 (by omega) ?b1 ?b2 ?_
      case hnone =>
        intro e
        have h1 := HSD.out.2.1 e
        have h2 := HSD.out.1.2.1
        omega
      case hlo => rw [List.length_map, HSD.out.1.1, Nat.mul_one]
      case holds =>
        intro b e i u hu
        subst e
        exact cell_kept ((Below.refl _ _).alloc (Nat.le_refl _) _) (Nat.le_refl _) (HSD.out.1.cells i u hu)
      case c1 =>
        intro i u hu
        match i, hu with
        | 0, hu => simp at hu; subst hu; simp [Addr.add]
        | (i + 1), hu => simp at hu
      case c2 => intro u hu; simp at hu; subst hu; rfl
      case b1 => have := HN.out; have := HNN.out; have := HLT.out; unfold maxLen; omega
      case b2 => have := HN.out; have := HNN.out; have := HLT.out; omega
      intro v' w4 hown hgrow
      obtain ⟨A4, c4, rfl, hs4⟩ := SlS.of_owns (l := l0 ++ l1.take j ++ [x]) (by rw [List.map_append, List.map_singleton]; exact hown)
      have hb4 : Below wd.heap.size wd w4 := ((Below.refl _ _).alloc (Nat.le_refl _) _).grown hgrow (by simp) (fun k e => by cases e)
      have HS4 := Lib.hid hs4
      have HB4 := Lib.hid hb4
      clear hown hgrow hs4 hb4
      go_wp2
      refine hK10 _ _ (by trivial) ?_; clear hK10; intro hS_7_10 hD
      refine rO 11 0 rfl hD ?_; clear hD; intro K11 hK11
      go_wp2
      refine hK11 _ _ (by trivial) ?_; clear hK11; intro hS_7_11 hD
      refine wpAnyK_done (by kernel_rfl) ?_ 0
      clear hD
      go_wp2
      go_roundw
      case rel =>
        refine ⟨j + 1, c4, A4, HLT.out, by go_num, by rw [← HNN.out]; rfl, ?_, frb_kept HID.out HB4.out, HBD.out.trans (HB4.out.mono HZD.out), Nat.le_trans HZD.out HB4.out.size⟩
        rw [take_snocT HX.out, ← List.append_assoc, ← Nat.add_assoc, HNN.out]
        exact HS4.out
      case measure => have := HLT.out; simp [RowKit.intOf]; omega
    · obtain ⟨N, hN⟩ : ∃ N, n0 + n1 = N := ⟨_, rfl⟩
      have hjn : j = n1 := by omega
      have HS9 := Lib.hid (show SlS wr A N c (l0 ++ l1) from by
        have h := HS.out
        rw [hjn, hN, List.take_of_length_le (by rw [HL1.out]; exact Nat.le_refl _)] at h
        exact h)
      rw [show n0 + j = N from by omega]
      obtain ⟨L, hL⟩ : ∃ L, l0 ++ l1 = L := ⟨_, rfl⟩
      have HLL := Lib.hid (show L.length = N from by rw [← hL, List.length_append, HL0.out, HL1.out]; exact hN)
      have HN9 := Lib.hid (show N ≤ 1000 from by have := HN.out; omega)
      rw [hL] at HS9 HSZ
      have HLE := Lib.hid hL
      have HH9 := Lib.hid (show H = byteCells (k :: shE8 L.length) from by rw [← HH.out, HLL.out, ← hN, ← byteCells_append]; rfl)
      clear hjn hN hj HS hL
      go_wp2
      clear hlt
      go_loopw [43] (fun i wr => ∃ q : Nat, q ≤ N ∧ i = .int .i64 q ∧ SlS wr A N c L ∧ IsBuilder 130 5 w.heap.size w.heap.size (byteCells (k :: shE8 L.length ++ ptL (dt (L.take q)))) wr ∧ Below w.heap.size w wr ∧ w.heap.size ≤ wr.heap.size) (fun i _ => N - (RowKit.intOf i).toNat)
      case atStart => exact ⟨0, Nat.zero_le _, rfl, HS9.out, by have := HIB.out; rw [HH9.out] at this; simpa [dt, ptL] using this, HB.out, HZR.out⟩
      case round =>
        obtain ⟨q, hq, rfl, hs, hib, hb, hzr⟩ := hrel
        have HSQ := Lib.hid hs
        have HIQ := Lib.hid hib
        have HBQ := Lib.hid hb
        have HZQ := Lib.hid hzr
        clear hs hib hb hzr
        by_cases hlt : q < N
        · obtain ⟨b1, o1, rfl⟩ := HSQ.out.1.head (by omega)
          obtain ⟨x, hx⟩ : ∃ x, L[q]? = some x := ⟨_, List.getElem?_eq_getElem (by have := HLL.out; omega)⟩
          have hcx := HSQ.out.1.get? q hx
          have hxs : x.size ≤ 1000000 := HSZ.out x (List.mem_of_getElem? hx)
          have HPL := Lib.hid (ptL_le HSZ.out q)
          have HPN := Lib.hid (show L.length * (8 + 1000000) ≤ 1000 * (8 + 1000000) from Nat.mul_le_mul_right _ (by rw [HLL.out]; exact HN9.out))
          have HXQ := Lib.hid hx
          have HLQ := Lib.hid hlt
          have hq9 : (q : Int) < 1000 := by have := HN9.out; omega
          obtain ⟨pre, hpre⟩ : ∃ p, k :: shE8 L.length ++ ptL (dt (L.take q)) = p := ⟨_, rfl⟩
          have HPP := Lib.hid hpre
          rw [hpre] at HIQ
          have HPR := Lib.hid (show pre.length ≤ 2000000000 from by
            rw [← hpre]
            have h1 := HPL.out
            have h2 := HPN.out
            simp [shE8]
            omega)
          have h8 := fr_eight w.heap.size w.heap.size (byteCells pre) x.size (by omega) wr HIQ.out (by rw [byteCells_length]; have := HPR.out; omega) HZQ.out
          have H8Q := Lib.hid h8
          have HXS := Lib.hid hxs
          clear hx hq h8 hpre hxs
          go_wp2_with fail
          refine H8Q.out.mono ?_
          rintro e w3 ⟨rfl, hi3, hb3, hk3⟩
          have HI3 := Lib.hid hi3
          have HB3 := Lib.hid (HBQ.out.trans hb3)
          have HS3 := Lib.hid (HSQ.out.keptS hk3)
          have HZ3 := Lib.hid (Nat.le_trans HZQ.out hb3.size)
          clear hi3 hb3 hk3 hcx
          go_wp2_with fail
          refine (frb_WriteString _ _ _ x _ HI3.out (by rw [List.length_append, byteCells_length, byteCells_length]; have := HPR.out; have := HXS.out; simp [shE8]; omega) HZ3.out).mono ?_
          rintro e w4 ⟨rfl, hi4, hb4, hk4⟩
          rw [Lib.strCells_eq, ← byteCells_append, ← byteCells_append] at hi4
          have HI4 := Lib.hid hi4
          have HB4 := Lib.hid (HB3.out.trans hb4)
          have HS4 := Lib.hid (HS3.out.keptS hk4)
          have HZ4 := Lib.hid (Nat.le_trans HZ3.out hb4.size)
          clear hi4 hb4 hk4
          go_wp2
          go_roundw
          case rel =>
            refine ⟨q + 1, HLQ.out, by go_num, HS4.out, ?_, HB4.out, HZ4.out⟩
            rw [take_snocT HXQ.out, dt_snoc, ptL_snoc, data_len, ← List.append_assoc, ← List.append_assoc, HPP.out]
            exact HI4.out
          case measure => have := HLQ.out; simp [RowKit.intOf]; omega
        · have hqn : q = N := by omega
          have HIZ := Lib.hid (show IsBuilder 130 5 w.heap.size w.heap.size (byteCells (frL k (dt L))) wr from by
            have h := HIQ.out
            rw [hqn, List.take_of_length_le (by rw [HLL.out]; exact Nat.le_refl _)] at h
            unfold frL
            rw [dt_length]
            exact h)
          have HPL := Lib.hid (ptL_le HSZ.out N)
          have HPN := Lib.hid (show L.length * (8 + 1000000) ≤ 1000 * (8 + 1000000) from Nat.mul_le_mul_right _ (by rw [HLL.out]; exact HN9.out))
          have hfl : (frL k (dt L)).length ≤ 1000000000000 := by
            have h1 := HPL.out
            have h2 := HPN.out
            rw [List.take_of_length_le (by rw [HLL.out]; exact Nat.le_refl _)] at h1
            unfold frL
            simp [shE8]
            omega
          have HFL := Lib.hid hfl
          obtain ⟨F, hF⟩ : ∃ F, frL k (dt L) = F := ⟨_, rfl⟩
          have HR := Lib.hid (show trH k (dt L) = shaL F from by rw [← hF]; rfl)
          rw [hF] at HIZ HFL
          clear hqn hfl hF HIQ hq HSQ
          go_wp2_with fail
          refine (frb_String _ _ F _ HIZ.out HZQ.out).mono ?_
          rintro e w3 ⟨rfl, hk3⟩
          have HB3 := Lib.hid (HBQ.out.trans hk3.1)
          have HZ3 := Lib.hid (Nat.le_trans HZQ.out hk3.1.size)
          clear hk3
          have hsz : (bstr F).size ≤ 1000000000000 := by rw [bstr_size]; exact HFL.out
          have HSUM := Lib.hid (h_Sum (bstr F) hsz)
          rw [bstr_data] at HSUM
          clear hsz
          go_wp2_with fail
          refine (HSUM.out _).mono ?_
          rintro e w4 ⟨rfl, hb4⟩
          have HB4 := Lib.hid (HB3.out.trans (hb4.mono HZ3.out))
          clear hb4
          go_wp2
          go_ret
          exact ⟨by rw [HLE.out, HR.out]; rfl, HB4.out⟩
set_option maxRecDepth 100000 in
set_option maxHeartbeats 4000000 in
theorem tr_framedN (k : UInt8) (A0 : Option Addr) (n0 c0 : Nat) (l0 : List ByteArray) (A1 : Option Addr) (n1 c1 : Nat) (l1 : List ByteArray) (hn : n0 + n1 ≤ 1000) (hz : ∀ s ∈ l0 ++ l1, s.size ≤ 1000000) (w : World) (h0 : SlS w A0 n0 c0 l0) (h1 : SlN w A1 n1 c1 l1) :
    Calls Tryz.prog 65 #[.int .u8 (k.toNat : Int), .slice A0 n0 c0, .slice A1 n1 c1, .func (.func 66) #[] #[]] w (Ret (.string (bstr (trH k (dt (l0 ++ l1))))) w) := by
  obtain ⟨i0, hi, hz0, hz1, hz2⟩ := info_parts str_info
  have hib := Lib.fresh_isBuilder 130 5 w
  have hb0 : Below w.heap.size w (w.alloc (.cells #[.pointer none, .slice none 0 0] 130)) := (Below.refl _ _).alloc (Nat.le_refl _) _
  obtain ⟨W0, hW0⟩ : ∃ W, w.alloc (.cells #[.pointer none, .slice none 0 0] 130) = W := ⟨_, rfl⟩
  have hzw : w.heap.size ≤ W0.heap.size := by rw [← hW0]; simp
  rw [hW0] at hib hb0
  have HIB := Lib.hid hib
  have HB0 := Lib.hid hb0
  have HS0 := Lib.hid (h0.kept hb0)
  have HM1 := Lib.hid h1
  have HZ0 := Lib.hid hzw
  have HSZ := Lib.hid hz
  have HN := Lib.hid hn
  have HL0 := Lib.hid h0.1.1
  have HL1 := Lib.hid h1.1
  clear hib hb0 h0 hzw hz h1
  go_enter Tryz.func65, Tryz.ntmps65
  go_wp2_with fail
  try rw [hW0]
  clear hW0
  refine (frb_WriteByte _ _ [] (k.toNat : Int) _ HIB.out (by simp) HZ0.out).mono ?_
  rintro e w1 ⟨rfl, hi1, hb1, hk1⟩
  have HI1 := Lib.hid (show IsBuilder 130 5 w.heap.size w.heap.size (byteCells [k]) w1 from hi1)
  have HB1 := Lib.hid (HB0.out.trans hb1)
  have HS1 := Lib.hid (HS0.out.keptS hk1)
  have HZ1 := Lib.hid (Nat.le_trans HZ0.out hb1.size)
  clear hi1 hb1 hk1
  have h8 := fr_eight w.heap.size w.heap.size (byteCells [k]) (n0 + n1) (by omega) w1 HI1.out (by simp [byteCells]) HZ1.out
  rw [Int.natCast_add] at h8
  have H8 := Lib.hid h8
  have hni : (n0 : Int) + (n1 : Int) ≤ 1000 := by omega
  clear h8 hn
  go_wp2_with fail
  refine H8.out.mono ?_
  rintro e w2 ⟨rfl, hi2, hb2, hk2⟩
  have HI2 := Lib.hid hi2
  have HB2 := Lib.hid (HB1.out.trans hb2)
  have HS2 := Lib.hid (HS1.out.keptS hk2)
  have HZ2 := Lib.hid (Nat.le_trans HZ1.out hb2.size)
  clear hi2 hb2 hk2
  obtain ⟨H, hH⟩ : ∃ H, byteCells [k] ++ byteCells (shE8 (n0 + n1)) = H := ⟨_, rfl⟩
  have HH := Lib.hid hH
  rw [hH] at HI2
  clear hH
  go_wp2
  go_loopw [1, 25] (fun v i wr => ∃ (j c : Nat) (A : Option Addr), j ≤ n1 ∧ i = .int .i64 j ∧ v = .slice A (n0 + j) c ∧ SlS wr A (n0 + j) c (l0 ++ l1.take j) ∧ IsBuilder 130 5 w.heap.size w.heap.size H wr ∧ Below w.heap.size w wr ∧ w.heap.size ≤ wr.heap.size) (fun _ i _ => n1 - (RowKit.intOf i).toNat)
  case atStart => exact ⟨0, c0, A0, Nat.zero_le _, rfl, rfl, by simpa using HS2.out, HI2.out, HB2.out, HZ2.out⟩
  case round =>
    obtain ⟨j, c, A, hj, rfl, rfl, hs, hib, hb, hzr⟩ := hrel
    have HS := Lib.hid hs
    have HIB := Lib.hid hib
    have HB := Lib.hid hb
    have HZR := Lib.hid hzr
    clear hs hib hb hzr
    by_cases hlt : j < n1
    · obtain ⟨b1, o1, rfl⟩ := HM1.out.head (by omega)
      obtain ⟨x, hx⟩ : ∃ x, l1[j]? = some x := ⟨_, List.getElem?_eq_getElem (by have := HL1.out; omega)⟩
      have hcx := (HM1.out.kept HB.out (Nat.le_refl _)).get? j hx
      have HX := Lib.hid hx
      obtain ⟨N, hN⟩ : ∃ N, n0 + j = N := ⟨_, rfl⟩
      have HNN := Lib.hid hN
      rw [hN] at HS ⊢
      have hNc : N ≤ c := HS.out.1.2.1
      have HLT := Lib.hid hlt
      clear hN hx hj
      go_wp2
      obtain ⟨wd, hwd⟩ : ∃ wd, wr.drew = wd := ⟨_, rfl⟩
      have hbd : Below wr.heap.size wr wd := by rw [← hwd]; exact (Below.refl _ _).drew
      have HSD := Lib.hid (HS.out.kept hbd)
      have HID := Lib.hid (show IsBuilder 130 5 w.heap.size w.heap.size H wd from by rw [← hwd]; exact frb_drew HIB.out)
      have HBD := Lib.hid (HB.out.trans (hbd.mono HZR.out))
      have HZD := Lib.hid (Nat.le_trans HZR.out hbd.size)
      clear hbd hcx
      refine wp_region_K 12 (fun _ => True) (by kernel_rfl) ?_
      intro hD
      rw [hwd]
      refine rP 0 29 11 rfl hD trivial ?_; clear hD; intro hD; simp only [Act.put, sqA, sqB, sqC]
      refine rP 1 30 10 rfl hD trivial ?_; clear hD; intro hD; simp only [Act.put, sqA, sqB, sqC]
      refine rP 2 31 9 rfl hD trivial ?_; clear hD; intro hD; simp only [Act.put, sqA, sqB, sqC]
      refine rP 3 32 8 rfl hD trivial ?_; clear hD; intro hD; simp only [Act.put, sqA, sqB, sqC]
      refine rP 4 33 7 rfl hD trivial ?_; clear hD; intro hD; simp only [Act.put, sqA, sqB, sqC]
      refine wpAnyK_takeSD (i := 5) (d := some 34) (v := (.slice A N N)) (fuel := 6) rfl (by kernel_rfl) (by kernel_rfl) (by kernel_rfl) (fun _ _ _ h => h) hD trivial (.inl ⟨by kernel_rfl, ?y7_5b2⟩) ?n7_5b2
      case y7_5b2 =>
        intro w' _
        exact full_run (.tmp 29) (.tmp 31) (.tmp 33) rfl rfl rfl rfl hNc w'
      clear hD; intro hD
      simp only [Act.put, sqA, sqB, sqC]
      refine rP 6 35 5 rfl hD trivial ?_; clear hD; intro hD; simp only [Act.put, sqA, sqB, sqC]
      refine rP 7 36 4 rfl hD trivial ?_; clear hD; intro hD; simp only [Act.put, sqA, sqB, sqC]
      refine rO 8 3 rfl hD ?_; clear hD; intro K8 hK8
      go_wp2_with fail
      refine (tr_idN x _).mono ?_
      rintro e w3 ⟨rfl, rfl⟩
      go_wp2
      refine hK8 _ _ (by trivial) ?_; clear hK8; intro hS_7_8 hD
      refine rO 9 2 rfl hD ?_; clear hD; intro K9 hK9
      go_wp2
      refine hK9 _ _ (by trivial) ?_; clear hK9; intro hS_7_9 hD
      refine rO 10 1 rfl hD ?_; clear hD; intro K10 hK10
      refine wpList_append_grows _ rfl (.tmp 34) (.tmp 38) 127 rfl 9 i0 (.string ⟨#[]⟩) 1 16 Tryz.underlying127 hi hz0 hz1 hz2 rfl (by decide) A N N ((l0 ++ l1.take j).map Value.string) rfl ?hnone ?hlo ?holds ⟨wd.heap.size, 0, none⟩ 1 1 [.string x] rfl rfl ?c1 ?c2 (by omega) ?b1 ?b2 ?_
      case hnone =>
        intro e
        have h1 := HSD.out.2.1 e
        have h2 := HSD.out.1.2.1
        omega
      case hlo => rw [List.length_map, HSD.out.1.1, Nat.mul_one]
      case holds =>
        intro b e i u hu
        subst e
        exact cell_kept ((Below.refl _ _).alloc (Nat.le_refl _) _) (Nat.le_refl _) (HSD.out.1.cells i u hu)
      case c1 =>
        intro i u hu
        match i, hu with
        | 0, hu => simp at hu; subst hu; simp [Addr.add]
        | (i + 1), hu => simp at hu
      case c2 => intro u hu; simp at hu; subst hu; rfl
      case b1 => have := HN.out; have := HNN.out; have := HLT.out; unfold maxLen; omega
      case b2 => have := HN.out; have := HNN.out; have := HLT.out; omega
      intro v' w4 hown hgrow
      obtain ⟨A4, c4, rfl, hs4⟩ := SlS.of_owns (l := l0 ++ l1.take j ++ [x]) (by rw [List.map_append, List.map_singleton]; exact hown)
      have hb4 : Below wd.heap.size wd w4 := ((Below.refl _ _).alloc (Nat.le_refl _) _).grown hgrow (by simp) (fun k e => by cases e)
      have HS4 := Lib.hid hs4
      have HB4 := Lib.hid hb4
      clear hown hgrow hs4 hb4
      go_wp2
      refine hK10 _ _ (by trivial) ?_; clear hK10; intro hS_7_10 hD
      refine rO 11 0 rfl hD ?_; clear hD; intro K11 hK11
      go_wp2
      refine hK11 _ _ (by trivial) ?_; clear hK11; intro hS_7_11 hD
      refine wpAnyK_done (by kernel_rfl) ?_ 0
      clear hD
      go_wp2
      go_roundw
      case rel =>
        refine ⟨j + 1, c4, A4, HLT.out, by go_num, by rw [← HNN.out]; rfl, ?_, frb_kept HID.out HB4.out, HBD.out.trans (HB4.out.mono HZD.out), Nat.le_trans HZD.out HB4.out.size⟩
        rw [take_snocT HX.out, ← List.append_assoc, ← Nat.add_assoc, HNN.out]
        exact HS4.out
      case measure => have := HLT.out; simp [RowKit.intOf]; omega
    · obtain ⟨N, hN⟩ : ∃ N, n0 + n1 = N := ⟨_, rfl⟩
      have hjn : j = n1 := by omega
      have HS9 := Lib.hid (show SlS wr A N c (l0 ++ l1) from by
        have h := HS.out
        rw [hjn, hN, List.take_of_length_le (by rw [HL1.out]; exact Nat.le_refl _)] at h
        exact h)
      rw [show n0 + j = N from by omega]
      obtain ⟨L, hL⟩ : ∃ L, l0 ++ l1 = L := ⟨_, rfl⟩
      have HLL := Lib.hid (show L.length = N from by rw [← hL, List.length_append, HL0.out, HL1.out]; exact hN)
      have HN9 := Lib.hid (show N ≤ 1000 from by have := HN.out; omega)
      rw [hL] at HS9 HSZ
      have HLE := Lib.hid hL
      have HH9 := Lib.hid (show H = byteCells (k :: shE8 L.length) from by rw [← HH.out, HLL.out, ← hN, ← byteCells_append]; rfl)
      clear hjn hN hj HS hL
      go_wp2
      clear hlt
      go_loopw [43] (fun i wr => ∃ q : Nat, q ≤ N ∧ i = .int .i64 q ∧ SlS wr A N c L ∧ IsBuilder 130 5 w.heap.size w.heap.size (byteCells (k :: shE8 L.length ++ ptL (dt (L.take q)))) wr ∧ Below w.heap.size w wr ∧ w.heap.size ≤ wr.heap.size) (fun i _ => N - (RowKit.intOf i).toNat)
      case atStart => exact ⟨0, Nat.zero_le _, rfl, HS9.out, by have := HIB.out; rw [HH9.out] at this; simpa [dt, ptL] using this, HB.out, HZR.out⟩
      case round =>
        obtain ⟨q, hq, rfl, hs, hib, hb, hzr⟩ := hrel
        have HSQ := Lib.hid hs
        have HIQ := Lib.hid hib
        have HBQ := Lib.hid hb
        have HZQ := Lib.hid hzr
        clear hs hib hb hzr
        by_cases hlt : q < N
        · obtain ⟨b1, o1, rfl⟩ := HSQ.out.1.head (by omega)
          obtain ⟨x, hx⟩ : ∃ x, L[q]? = some x := ⟨_, List.getElem?_eq_getElem (by have := HLL.out; omega)⟩
          have hcx := HSQ.out.1.get? q hx
          have hxs : x.size ≤ 1000000 := HSZ.out x (List.mem_of_getElem? hx)
          have HPL := Lib.hid (ptL_le HSZ.out q)
          have HPN := Lib.hid (show L.length * (8 + 1000000) ≤ 1000 * (8 + 1000000) from Nat.mul_le_mul_right _ (by rw [HLL.out]; exact HN9.out))
          have HXQ := Lib.hid hx
          have HLQ := Lib.hid hlt
          have hq9 : (q : Int) < 1000 := by have := HN9.out; omega
          obtain ⟨pre, hpre⟩ : ∃ p, k :: shE8 L.length ++ ptL (dt (L.take q)) = p := ⟨_, rfl⟩
          have HPP := Lib.hid hpre
          rw [hpre] at HIQ
          have HPR := Lib.hid (show pre.length ≤ 2000000000 from by
            rw [← hpre]
            have h1 := HPL.out
            have h2 := HPN.out
            simp [shE8]
            omega)
          have h8 := fr_eight w.heap.size w.heap.size (byteCells pre) x.size (by omega) wr HIQ.out (by rw [byteCells_length]; have := HPR.out; omega) HZQ.out
          have H8Q := Lib.hid h8
          have HXS := Lib.hid hxs
          clear hx hq h8 hpre hxs
          go_wp2_with fail
          refine H8Q.out.mono ?_
          rintro e w3 ⟨rfl, hi3, hb3, hk3⟩
          have HI3 := Lib.hid hi3
          have HB3 := Lib.hid (HBQ.out.trans hb3)
          have HS3 := Lib.hid (HSQ.out.keptS hk3)
          have HZ3 := Lib.hid (Nat.le_trans HZQ.out hb3.size)
          clear hi3 hb3 hk3 hcx
          go_wp2_with fail
          refine (frb_WriteString _ _ _ x _ HI3.out (by rw [List.length_append, byteCells_length, byteCells_length]; have := HPR.out; have := HXS.out; simp [shE8]; omega) HZ3.out).mono ?_
          rintro e w4 ⟨rfl, hi4, hb4, hk4⟩
          rw [Lib.strCells_eq, ← byteCells_append, ← byteCells_append] at hi4
          have HI4 := Lib.hid hi4
          have HB4 := Lib.hid (HB3.out.trans hb4)
          have HS4 := Lib.hid (HS3.out.keptS hk4)
          have HZ4 := Lib.hid (Nat.le_trans HZ3.out hb4.size)
          clear hi4 hb4 hk4
          go_wp2
          go_roundw
          case rel =>
            refine ⟨q + 1, HLQ.out, by go_num, HS4.out, ?_, HB4.out, HZ4.out⟩
            rw [take_snocT HXQ.out, dt_snoc, ptL_snoc, data_len, ← List.append_assoc, ← List.append_assoc, HPP.out]
            exact HI4.out
          case measure => have := HLQ.out; simp [RowKit.intOf]; omega
        · have hqn : q = N := by omega
          have HIZ := Lib.hid (show IsBuilder 130 5 w.heap.size w.heap.size (byteCells (frL k (dt L))) wr from by
            have h := HIQ.out
            rw [hqn, List.take_of_length_le (by rw [HLL.out]; exact Nat.le_refl _)] at h
            unfold frL
            rw [dt_length]
            exact h)
          have HPL := Lib.hid (ptL_le HSZ.out N)
          have HPN := Lib.hid (show L.length * (8 + 1000000) ≤ 1000 * (8 + 1000000) from Nat.mul_le_mul_right _ (by rw [HLL.out]; exact HN9.out))
          have hfl : (frL k (dt L)).length ≤ 1000000000000 := by
            have h1 := HPL.out
            have h2 := HPN.out
            rw [List.take_of_length_le (by rw [HLL.out]; exact Nat.le_refl _)] at h1
            unfold frL
            simp [shE8]
            omega
          have HFL := Lib.hid hfl
          obtain ⟨F, hF⟩ : ∃ F, frL k (dt L) = F := ⟨_, rfl⟩
          have HR := Lib.hid (show trH k (dt L) = shaL F from by rw [← hF]; rfl)
          rw [hF] at HIZ HFL
          clear hqn hfl hF HIQ hq HSQ
          go_wp2_with fail
          refine (frb_String _ _ F _ HIZ.out HZQ.out).mono ?_
          rintro e w3 ⟨rfl, hk3⟩
          have HB3 := Lib.hid (HBQ.out.trans hk3.1)
          have HZ3 := Lib.hid (Nat.le_trans HZQ.out hk3.1.size)
          clear hk3
          have hsz : (bstr F).size ≤ 1000000000000 := by rw [bstr_size]; exact HFL.out
          have HSUM := Lib.hid (h_Sum (bstr F) hsz)
          rw [bstr_data] at HSUM
          clear hsz
          go_wp2_with fail
          refine (HSUM.out _).mono ?_
          rintro e w4 ⟨rfl, hb4⟩
          have HB4 := Lib.hid (HB3.out.trans (hb4.mono HZ3.out))
          clear hb4
          go_wp2
          go_ret
          exact ⟨by rw [HLE.out, HR.out]; rfl, HB4.out⟩
end Go.Proofs.YtecmmdealjhdpaaGreat
/- Walk: the reference's schedule. -/
set_option linter.unusedVariables false
set_option linter.unusedSimpArgs false
namespace Go.Proofs.YtecmmdealjhdpaaGreat
open Go.RowKit Go.Lib
def pb (m : List UInt8) (i : Nat) : Nat → Nat
  | 0 => 0
  | q + 1 => pb m i q * 256 + (m.getD (4 * i + q) 0).toNat
def wq (m : List UInt8) (i q : Nat) (j : Nat) : BitVec 32 := if j = i then BitVec.ofNat 32 (pb m i q) else wz m i j
end Go.Proofs.YtecmmdealjhdpaaGreat
/- Walks: transcript.New, Add, Nats. -/
set_option linter.unusedVariables false
set_option linter.unusedSimpArgs false
namespace Go.Proofs.YtecmmdealjhdpaaGreat
open Go.RowKit Go.Lib
theorem sls_alloc (w : World) (l : List ByteArray) (h : l.length ≤ 9223372036854775807 := by decide) : SlS (w.alloc (.cells (l.map Value.string).toArray 9)) (some ⟨w.heap.size, 0, none⟩) l.length l.length l :=
  ⟨sln_alloc w l _ h, (fun e => by cases e), fun b o e => by cases e; exact ⟨_, _, heap_alloc_new _ _⟩⟩
theorem SlS.none (w : World) : SlS w none 0 0 [] := ⟨SlN.nil w 0 (by omega) _, fun _ => rfl, fun b o e => by cases e⟩
set_option maxRecDepth 100000 in
set_option maxHeartbeats 1000000 in
theorem tr_plain (k : UInt8) (A1 : Option Addr) (n1 c1 : Nat) (l1 : List ByteArray) (hn : n1 ≤ 1000) (hz : ∀ s ∈ l1, s.size ≤ 1000000) (w : World) (h1 : SlN w A1 n1 c1 l1) :
    Calls Tryz.prog 64 #[.int .u8 (k.toNat : Int), .slice A1 n1 c1] w (Ret (.string (bstr (trH k (dt l1)))) w) := by
  have HF := Lib.hid (tr_framedS k none 0 0 [] A1 n1 c1 l1 (by omega) (by simpa using hz) w (SlS.none w) h1)
  rw [List.nil_append] at HF
  obtain ⟨r, hr⟩ : ∃ r, bstr (trH k (dt l1)) = r := ⟨_, rfl⟩
  rw [hr] at HF ⊢
  clear hr h1
  go_enter Tryz.func64, Tryz.ntmps64
  go_wp2_with fail
  refine HF.out.mono ?_
  rintro e w1 ⟨rfl, hb⟩
  go_wp2
  go_ret
  exact ⟨rfl, hb⟩
set_option maxRecDepth 100000 in
set_option maxHeartbeats 1000000 in
theorem tr_New (a : ByteArray) (ha : a.size ≤ 1000000) (w : World) : Calls Tryz.prog 53 #[.string a] w (Ret (.string (bstr (trH 78 (dt [a])))) w) := by
  have HF := Lib.hid (tr_plain 78 _ 1 1 [a] (by omega) (by simpa using ha) _ (sln_alloc w [a] 9 (by simp)))
  obtain ⟨r, hr⟩ : ∃ r, bstr (trH 78 (dt [a])) = r := ⟨_, rfl⟩
  rw [hr] at HF ⊢
  clear hr
  have HB := Lib.hid ((Below.refl w.heap.size w).alloc (Nat.le_refl _) (.cells #[.string a] 9))
  go_enter Tryz.func53, Tryz.ntmps53
  go_wp2_with fail
  refine HF.out.mono ?_
  rintro e w1 ⟨rfl, hb⟩
  have HB1 := Lib.hid (HB.out.trans (hb.mono HB.out.size))
  clear hb
  go_wp2
  go_ret
  exact ⟨rfl, HB1.out⟩
set_option maxRecDepth 100000 in
set_option maxHeartbeats 1000000 in
theorem tr_Add (a b c : ByteArray) (ha : a.size ≤ 1000000) (hb : b.size ≤ 1000000) (hc : c.size ≤ 1000000) (w : World) : Calls Tryz.prog 56 #[.string a, .string b, .string c] w (Ret (.string (bstr (trH 65 (dt [a, b, c])))) w) := by
  have HF := Lib.hid (tr_plain 65 _ 3 3 [a, b, c] (by omega) (by simp; exact ⟨ha, hb, hc⟩) _ (sln_alloc w [a, b, c] 9 (by simp)))
  obtain ⟨r, hr⟩ : ∃ r, bstr (trH 65 (dt [a, b, c])) = r := ⟨_, rfl⟩
  rw [hr] at HF ⊢
  clear hr
  have HB := Lib.hid ((Below.refl w.heap.size w).alloc (Nat.le_refl _) (.cells #[.string a, .string b, .string c] 9))
  clear ha hb hc
  go_enter Tryz.func56, Tryz.ntmps56
  go_wp2_with fail
  refine HF.out.mono ?_
  rintro e w1 ⟨rfl, hb⟩
  have HB1 := Lib.hid (HB.out.trans (hb.mono HB.out.size))
  clear hb
  go_wp2
  go_ret
  exact ⟨rfl, HB1.out⟩
set_option maxRecDepth 100000 in
set_option maxHeartbeats 1000000 in
theorem tr_Nats (a b : ByteArray) (A1 : Option Addr) (n1 c1 : Nat) (l1 : List ByteArray) (ha : a.size ≤ 1000000) (hb : b.size ≤ 1000000) (hn : n1 ≤ 900) (hz : ∀ s ∈ l1, s.size ≤ 1000000) (w : World) (h1 : SlN w A1 n1 c1 l1) : Calls Tryz.prog 54 #[.string a, .string b, .slice A1 n1 c1] w (Ret (.string (bstr (trH 76 (dt ([a, b] ++ l1))))) w) := by
  have hbb := (Below.refl w.heap.size w).alloc (Nat.le_refl _) (.cells #[.string a, .string b] 9)
  have HF := Lib.hid (tr_framedN 76 _ 2 2 [a, b] A1 n1 c1 l1 (by omega) (by
    intro s hs
    rcases List.mem_append.1 hs with h | h
    · simp at h; rcases h with rfl | rfl <;> assumption
    · exact hz s h) _ (sls_alloc w [a, b] (by simp)) (h1.kept hbb (Nat.le_refl _)))
  obtain ⟨r, hr⟩ : ∃ r, bstr (trH 76 (dt ([a, b] ++ l1))) = r := ⟨_, rfl⟩
  rw [hr] at HF ⊢
  have HB := Lib.hid hbb
  clear hr hbb ha hb h1 hn hz
  go_enter Tryz.func54, Tryz.ntmps54
  go_wp2_with fail
  refine HF.out.mono ?_
  rintro e w1 ⟨rfl, hb⟩
  have HB1 := Lib.hid (HB.out.trans (hb.mono HB.out.size))
  clear hb
  go_wp2
  go_ret
  exact ⟨rfl, HB1.out⟩
end Go.Proofs.YtecmmdealjhdpaaGreat

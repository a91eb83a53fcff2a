/- Walk: transcript's frame.eight. -/
import Derived.Test.YtndmjfkmnjejkaaGreatDoorQTrB
import Derived.Test.YtndmjfkmnjejkaaGreatDoorQShG
import Derived.Test.YtndmjfkmnjejkaaGreatDoorQPeK
import Derived.Test.YtndmjfkmnjejkaaGreatDoorQRowN
import Derived.ArgAppend
set_option linter.unusedVariables false
set_option linter.unusedSimpArgs false
namespace Go.Proofs.YtndmjfkmnjejkaaGreatDoor
open Go.RowKit Go.Lib
theorem u8_wrap (n k : Nat) : IntKind.u8.wrap ((n : Int) / 2 ^ k) = ((UInt8.ofNat (n / 2 ^ k)).toNat : Int) := by
  have h : IntKind.u8.wrap ((n : Int) / 2 ^ k) = ((n : Int) / 2 ^ k) % 256 := rfl
  have : ((n : Int) / 2 ^ k % 256) = ((n / 2 ^ k % 256 : Nat) : Int) := by simp
  rw [h, this]
  simp [UInt8.toNat_ofNat']
set_option maxRecDepth 100000 in
set_option maxHeartbeats 2000000 in
theorem fr_eight (B b : Nat) (bs : List Value) (n : Nat) (hn : n ≤ 4611686018427387904) (w : World) (h : IsBuilder 194 5 B b bs w) (hlen : bs.length ≤ 1000000000000) (hBw : B ≤ w.heap.size) :
    Calls Tryz.prog 181 #[.pointer (some ⟨b, 0, none⟩), .int .i64 n] w fun e w' => e = .returned (.tuple #[]) ∧ (IsBuilder 194 5 B b (bs ++ byteCells (shE8 n)) w' ∧ Below B w w' ∧ KeepS w w') := by
  have HI := Lib.hid h
  clear h
  go_enter Tryz.func181, Tryz.ntmps181
  go_wp2
  go_loopw [4] (fun i wr => ∃ q : Nat, q ≤ 8 ∧ i = .int .i64 (56 - 8 * (q : Int)) ∧ IsBuilder 194 5 B b (bs ++ byteCells ((shE8 n).take q)) wr ∧ Below B w wr ∧ B ≤ wr.heap.size ∧ KeepS w wr) (fun i _ => (RowKit.intOf i + 8).toNat)
  case atStart => exact ⟨0, Nat.zero_le _, rfl, by simpa [byteCells] using HI.out, Below.refl _ _, hBw, KeepS.refl _⟩
  case round =>
    obtain ⟨q, hq, rfl, hib, hb, hz, hks⟩ := hrel
    have HKS := Lib.hid hks
    clear hks
    have HIB := Lib.hid hib
    have HB := Lib.hid hb
    clear hib hb
    by_cases hlt : q < 8
    · obtain ⟨sh, hsh⟩ : ∃ sh, 56 - 8 * q = sh := ⟨_, rfl⟩
      have hshi : (56 : Int) - 8 * (q : Int) = (sh : Int) := by omega
      have hsh64 : (sh : Int) < 64 := by omega
      have hge : (0 : Int) ≤ (sh : Int) := by omega
      have HTK := Lib.hid (shE8_get n hlt)
      rw [hsh] at HTK
      rw [hshi]
      have HSI := Lib.hid hshi
      have HQ := Lib.hid hlt
      have HLQ := Lib.hid (show ((shE8 n).take q).length ≤ 8 from by rw [List.length_take]; simp [shE8]; omega)
      clear hsh hshi hlt hq
      go_wp2
      obtain ⟨wd, hwd⟩ : ∃ wd, wr.drew = wd := ⟨_, rfl⟩
      have HID := Lib.hid (show IsBuilder 194 5 B b (bs ++ byteCells ((shE8 n).take q)) wd from by rw [← hwd]; exact frb_drew HIB.out)
      have HBD := Lib.hid (show Below B w wd from by rw [← hwd]; exact HB.out.drew)
      have hzd : B ≤ wd.heap.size := by rw [← hwd]; exact hz
      have HZD := Lib.hid hzd
      clear hz hzd
      refine wp_region_K 8 (fun _ => True) (by kernel_rfl) ?_
      intro hD
      rw [hwd]
      refine rP 0 9 7 rfl hD trivial ?_; clear hD; intro hD; simp only [Act.put, sqA, sqB, sqC]
      refine rP 1 10 6 rfl hD trivial ?_; clear hD; intro hD; simp only [Act.put, sqA, sqB, sqC]
      refine rP 2 11 5 rfl hD trivial ?_; clear hD; intro hD; simp only [Act.put, sqA, sqB, sqC]
      refine rP 3 12 4 rfl hD trivial ?_; clear hD; intro hD; simp only [Act.put, sqA, sqB, sqC]
      refine rP 4 13 3 rfl hD trivial ?_; clear hD; intro hD; simp only [Act.put, sqA, sqB, sqC]
      refine rP 5 14 2 rfl hD trivial ?_; clear hD; intro hD; simp only [Act.put, sqA, sqB, sqC]
      refine rP 6 15 1 rfl hD trivial ?_; clear hD; intro hD; simp only [Act.put, sqA, sqB, sqC]
      refine rO 7 0 rfl hD ?_; clear hD; intro K7 hK7
      rw [u8_wrap]
      go_wp2_with fail
      refine (frb_WriteByte B b _ _ _ HID.out (by have := HLQ.out; rw [List.length_append, byteCells_length]; omega) HZD.out).mono ?_
      rintro e w3 ⟨rfl, hi3, hb3, hk3⟩
      have HK3 := Lib.hid (show KeepS w w3 from (HKS.out.trans (by rw [← hwd]; exact KeepS.below (Below.refl _ _).drew)).trans hk3)
      have HI3 := Lib.hid hi3
      have HB3 := Lib.hid (HBD.out.trans hb3)
      have HZ3 := Lib.hid (Nat.le_trans HZD.out hb3.size)
      clear hi3 hb3 hk3
      go_wp2
      refine hK7 _ _ (by trivial) ?_; clear hK7; intro hS_3_7 hD
      refine wpAnyK_done (by kernel_rfl) ?_ 0
      clear hD
      have hsub : (sh : Int) - 8 = 56 - 8 * ((q + 1 : Nat) : Int) := by have := HSI.out; omega
      go_wp2
      go_roundw
      case rel =>
        refine ⟨q + 1, HQ.out, rfl, ?_, HB3.out, HZ3.out, HK3.out⟩
        rw [HTK.out, byteCells_append, ← List.append_assoc]
        exact HI3.out
      case measure => have := HSI.out; simp [RowKit.intOf]; omega
    · have HQ := Lib.hid (show q = 8 from by omega)
      have hge : ¬ ((0 : Int) ≤ 56 - 8 * (q : Int)) := by omega
      clear hq hlt
      go_wp2
      go_end0
      refine ⟨rfl, ?_, HB.out, HKS.out⟩
      have h8 : (shE8 n).take q = shE8 n := by rw [HQ.out]; rfl
      rw [← h8]
      exact HIB.out
end Go.Proofs.YtndmjfkmnjejkaaGreatDoor
/- Walks: transcript.framed for strings and for numbers. -/
set_option linter.unusedVariables false
set_option linter.unusedSimpArgs false
namespace Go.Proofs.YtndmjfkmnjejkaaGreatDoor
open Go.RowKit Go.Lib
def SlS (w : World) (A : Option Addr) (n c : Nat) (l : List ByteArray) : Prop :=
  SlN w A n c l ∧ (A = none → c = 0) ∧ ∀ b o, A = some ⟨b, o, none⟩ → ∃ cs fr, w.heap[b]? = some (.cells cs 9 fr)
theorem SlS.kept {w w' : World} {A : Option Addr} {n c : Nat} {l : List ByteArray} (h : SlS w A n c l) (hb : Below w.heap.size w w') : SlS w' A n c l :=
  ⟨h.1.kept hb (Nat.le_refl _), h.2.1, fun b o e => by obtain ⟨cs, fr, hc⟩ := h.2.2 b o e; exact ⟨cs, fr, (hb.block b (block_lt hc)).trans hc⟩⟩
theorem cell_keepS {w w' : World} {b k : Nat} {cs : Array Value} {fr : Nat × Nat} (hk : KeepS w w') (hc : w.heap[b]? = some (.cells cs 9 fr)) : w'.cell? ⟨b, k, none⟩ = w.cell? ⟨b, k, none⟩ := by
  unfold World.cell?
  rw [hk b cs fr hc, hc]
theorem SlS.keptS {w w' : World} {A : Option Addr} {n c : Nat} {l : List ByteArray} (h : SlS w A n c l) (hk : KeepS w w') : SlS w' A n c l := by
  obtain ⟨⟨h1, h2, h3, b, o, h4, h5⟩, h6, h7⟩ := h
  refine ⟨⟨h1, h2, h3, b, o, h4, fun k s hs => ?_⟩, h6, fun b o e => by obtain ⟨cs, fr, hc⟩ := h7 b o e; exact ⟨cs, fr, hk _ _ _ hc⟩⟩
  have hlt : k < l.length := (List.getElem?_eq_some_iff.1 hs).1
  obtain ⟨cs, fr, hc⟩ := h7 b o (h4 (by omega))
  rw [cell_keepS hk hc]
  exact h5 k s hs
theorem SlS.of_owns {w : World} {base : Nat} {v : Value} {n : Nat} {l : List ByteArray} (h : w.ownsRow base 9 1 v n (l.map Value.string)) : ∃ A cap, v = .slice A n cap ∧ SlS w A n cap l := by
  obtain ⟨hl, A, cap, rfl, hs⟩ := SlN.of_owns h
  refine ⟨A, cap, rfl, hs, fun e => ?_, fun b o e => ?_⟩
  · subst e
    rcases h.2 with ⟨hv, _⟩ | ⟨g, c, cur, hv, _⟩
    · cases hv; rfl
    · cases hv
  · subst e
    rcases h.2 with ⟨hv, _⟩ | ⟨g, c, cur, hv, _, hg, _⟩
    · cases hv
    · cases hv; exact ⟨_, _, hg⟩
def dt (l : List ByteArray) : List (List UInt8) := l.map fun s => s.data.toList
theorem dt_snoc (l : List ByteArray) (s : ByteArray) : dt (l ++ [s]) = dt l ++ [s.data.toList] := by simp [dt]
theorem dt_length (l : List ByteArray) : (dt l).length = l.length := by simp [dt]
theorem take_snocT {α : Type} {l : List α} {k : Nat} {y : α} (h : l[k]? = some y) : l.take (k + 1) = l.take k ++ [y] := by
  obtain ⟨h1, rfl⟩ := List.getElem?_eq_some_iff.1 h
  exact List.take_succ_eq_append_getElem h1
theorem str_info : (Tryz.prog.info? 9).map (fun i => (i.zero, i.size, i.bytes)) = some (some (.string ⟨#[]⟩), 1, 16) := by kernel_rfl
theorem ptL_le {l : List ByteArray} {m : Nat} (h : ∀ s ∈ l, s.size ≤ m) (k : Nat) : (ptL (dt (l.take k))).length ≤ l.length * (8 + m) := by
  rw [ptL_length, dt_length]
  have h1 : ((dt (l.take k)).map List.length).sum ≤ (dt (l.take k)).length * m := sum_le_all fun s hs => by
    obtain ⟨x, hx, rfl⟩ := List.mem_map.1 hs
    have := h x (List.mem_of_mem_take hx)
    simpa [data_len] using this
  rw [dt_length] at h1
  have h2 : (l.take k).length ≤ l.length := by rw [List.length_take]; omega
  calc 8 * (l.take k).length + ((dt (l.take k)).map List.length).sum ≤ 8 * (l.take k).length + (l.take k).length * m := Nat.add_le_add_left h1 _
    _ = (l.take k).length * (8 + m) := by rw [Nat.mul_add, Nat.mul_comm]
    _ ≤ l.length * (8 + m) := Nat.mul_le_mul_right _ h2
set_option maxRecDepth 100000 in
theorem tr_idS (s : ByteArray) (w : World) : Calls Tryz.prog 209 #[.string s] w fun e w' => e = .returned (.string s) ∧ w = w' := by
  go_enter Tryz.func209, Tryz.ntmps209
  go_wp2
  go_ret
  exact ⟨rfl, rfl⟩
set_option maxRecDepth 100000 in
theorem tr_idN (s : ByteArray) (w : World) : Calls Tryz.prog 179 #[.string s] w fun e w' => e = .returned (.string s) ∧ w = w' := by
  go_enter Tryz.func179, Tryz.ntmps179
  go_wp2
  go_ret
  exact ⟨rfl, rfl⟩
theorem full_run {ρ : Operand → Value} {o : Oper} (x y z : Operand) (hop : o.op = Op.slice 187 x none (some y) (some z)) {A : Option Addr} {N c : Nat} (hx : ρ x = .slice A N c) (hy : ρ y = .int .i64 (N : Int)) (hz : ρ z = .int .i64 (N : Int)) (h : N ≤ c) (w : World) : Sem.run Tryz.prog (execOp ρ o) w = Result.ok (.value (.slice A N N)) w := by
  obtain ⟨i0, hi, hz0, hz1, hz2⟩ := info_parts str_info
  have ht : Tryz.prog.underlying 187 = some (.slice (Tryz.prog.elem 187)) := by rw [show Tryz.prog.elem 187 = 9 from by kernel_rfl]; exact Tryz.underlying187
  have he : (if (N : Int).toNat = 0 then A else A.map fun x => x.add (0 * i0.size)) = A := by
    split
    · rfl
    · cases A with
      | none => rfl
      | some a => simp [Addr.add]
  have hs := run_slice_hm (P := Tryz.prog) w 187 A N c ht .i64 .i64 (N : Int) (N : Int) (by omega) (by omega) (by omega)
  unfold execOp
  simp only [hop, hx, hy, hz, Option.map_some, Option.map_none]
  rw [show Tryz.prog.elem 187 = 9 from by kernel_rfl] at hs ht
  simp [run_sliceAt_slice, go_sem, run_underlying ht, hs, sizeOf, typeInfo, hi, sliced, he, Result.andThen]
set_option maxRecDepth 100000 in
set_option maxHeartbeats 4000000 in
theorem tr_framedS (k : UInt8) (A0 : Option Addr) (n0 c0 : Nat) (l0 : List ByteArray) (A1 : Option Addr) (n1 c1 : Nat) (l1 : List ByteArray) (hn : n0 + n1 ≤ 1000) (hz : ∀ s ∈ l0 ++ l1, s.size ≤ 1000000) (w : World) (h0 : SlS w A0 n0 c0 l0) (h1 : SlN w A1 n1 c1 l1) :
    Calls Tryz.prog 208 #[.int .u8 (k.toNat : Int), .slice A0 n0 c0, .slice A1 n1 c1, .func (.func 209) #[] #[]] w (Ret (.string (bstr (trH k (dt (l0 ++ l1))))) w) := by
  obtain ⟨i0, hi, hz0, hz1, hz2⟩ := info_parts str_info
  have hib := Lib.fresh_isBuilder 194 5 w
  have hb0 : Below w.heap.size w (w.alloc (.cells #[.pointer none, .slice none 0 0] 194)) := (Below.refl _ _).alloc (Nat.le_refl _) _
  obtain ⟨W0, hW0⟩ : ∃ W, w.alloc (.cells #[.pointer none, .slice none 0 0] 194) = W := ⟨_, rfl⟩
  have hzw : w.heap.size ≤ W0.heap.size := by rw [← hW0]; simp
  rw [hW0] at hib hb0
  have HIB := Lib.hid hib
  have HB0 := Lib.hid hb0
  have HS0 := Lib.hid (h0.kept hb0)
  have HM1 := Lib.hid h1
  have HZ0 := Lib.hid hzw
  have HSZ := Lib.hid hz
  have HN := Lib.hid hn
  have HL0 := Lib.hid h0.1.1
  have HL1 := Lib.hid h1.1
  clear hib hb0 h0 hzw hz h1
  go_enter Tryz.func208, Tryz.ntmps208
  go_wp2_with fail
  try rw [hW0]
  clear hW0
  refine (frb_WriteByte _ _ [] (k.toNat : Int) _ HIB.out (by simp) HZ0.out).mono ?_
  rintro e w1 ⟨rfl, hi1, hb1, hk1⟩
  have HI1 := Lib.hid (show IsBuilder 194 5 w.heap.size w.heap.size (byteCells [k]) w1 from hi1)
  have HB1 := Lib.hid (HB0.out.trans hb1)
  have HS1 := Lib.hid (HS0.out.keptS hk1)
  have HZ1 := Lib.hid (Nat.le_trans HZ0.out hb1.size)
  clear hi1 hb1 hk1
  have h8 := fr_eight w.heap.size w.heap.size (byteCells [k]) (n0 + n1) (by omega) w1 HI1.out (by simp [byteCells]) HZ1.out
  rw [Int.natCast_add] at h8
  have H8 := Lib.hid h8
  have hni : (n0 : Int) + (n1 : Int) ≤ 1000 := by omega
  clear h8 hn
  go_wp2_with fail
  refine H8.out.mono ?_
  rintro e w2 ⟨rfl, hi2, hb2, hk2⟩
  have HI2 := Lib.hid hi2
  have HB2 := Lib.hid (HB1.out.trans hb2)
  have HS2 := Lib.hid (HS1.out.keptS hk2)
  have HZ2 := Lib.hid (Nat.le_trans HZ1.out hb2.size)
  clear hi2 hb2 hk2
  obtain ⟨H, hH⟩ : ∃ H, byteCells [k] ++ byteCells (shE8 (n0 + n1)) = H := ⟨_, rfl⟩
  have HH := Lib.hid hH
  rw [hH] at HI2
  clear hH
  go_wp2
  go_loopw [1, 25] (fun v i wr => ∃ (j c : Nat) (A : Option Addr), j ≤ n1 ∧ i = .int .i64 j ∧ v = .slice A (n0 + j) c ∧ SlS wr A (n0 + j) c (l0 ++ l1.take j) ∧ IsBuilder 194 5 w.heap.size w.heap.size H wr ∧ Below w.heap.size w wr ∧ w.heap.size ≤ wr.heap.size) (fun _ i _ => n1 - (RowKit.intOf i).toNat)
  case atStart => exact ⟨0, c0, A0, Nat.zero_le _, rfl, rfl, by simpa using HS2.out, HI2.out, HB2.out, HZ2.out⟩
  case round =>
    obtain ⟨j, c, A, hj, rfl, rfl, hs, hib, hb, hzr⟩ := hrel
    have HS := Lib.hid hs
    have HIB := Lib.hid hib
    have HB := Lib.hid hb
    have HZR := Lib.hid hzr
    clear hs hib hb hzr
    by_cases hlt : j < n1
    · obtain ⟨b1, o1, rfl⟩ := HM1.out.head (by omega)
      obtain ⟨x, hx⟩ : ∃ x, l1[j]? = some x := ⟨_, List.getElem?_eq_getElem (by have := HL1.out; omega)⟩
      have hcx := (HM1.out.kept HB.out (Nat.le_refl _)).get? j hx
      have HX := Lib.hid hx
      obtain ⟨N, hN⟩ : ∃ N, n0 + j = N := ⟨_, rfl⟩
      have HNN := Lib.hid hN
      rw [hN] at HS ⊢
      have hNc : N ≤ c := HS.out.1.2.1
      have HLT := Lib.hid hlt
      clear hN hx hj
      go_wp2
      obtain ⟨wd, hwd⟩ : ∃ wd, wr.drew = wd := ⟨_, rfl⟩
      have hbd : Below wr.heap.size wr wd := by rw [← hwd]; exact (Below.refl _ _).drew
      have HSD := Lib.hid (HS.out.kept hbd)
      have HID := Lib.hid (show IsBuilder 194 5 w.heap.size w.heap.size H wd from by rw [← hwd]; exact frb_drew HIB.out)
      have HBD := Lib.hid (HB.out.trans (hbd.mono HZR.out))
      have HZD := Lib.hid (Nat.le_trans HZR.out hbd.size)
      clear hbd hcx
      refine wp_region_K 12 (fun _ => True) (by kernel_rfl) ?_
      intro hD
      rw [hwd]
      refine rP 0 29 11 rfl hD trivial ?_; clear hD; intro hD; simp only [Act.put, sqA, sqB, sqC]
      refine rP 1 30 10 rfl hD trivial ?_; clear hD; intro hD; simp only [Act.put, sqA, sqB, sqC]
      refine rP 2 31 9 rfl hD trivial ?_; clear hD; intro hD; simp only [Act.put, sqA, sqB, sqC]
      refine rP 3 32 8 rfl hD trivial ?_; clear hD; intro hD; simp only [Act.put, sqA, sqB, sqC]
      refine rP 4 33 7 rfl hD trivial ?_; clear hD; intro hD; simp only [Act.put, sqA, sqB, sqC]
      refine wpAnyK_takeSD (i := 5) (d := some 34) (v := (.slice A N N)) (fuel := 6) rfl (by kernel_rfl) (by kernel_rfl) (by kernel_rfl) (fun _ _ _ h => h) hD trivial (.inl ⟨by kernel_rfl, ?y7_5b1⟩) ?n7_5b1
      case y7_5b1 =>
        intro w' _
        exact full_run (.tmp 29) (.tmp 31) (.tmp 33) rfl rfl rfl rfl hNc w'
      clear hD; intro hD
      simp only [Act.put, sqA, sqB, sqC]
      refine rP 6 35 5 rfl hD trivial ?_; clear hD; intro hD; simp only [Act.put, sqA, sqB, sqC]
      refine rP 7 36 4 rfl hD trivial ?_; clear hD; intro hD; simp only [Act.put, sqA, sqB, sqC]
      refine rO 8 3 rfl hD ?_; clear hD; intro K8 hK8
      go_wp2_with fail
      refine (tr_idS x _).mono ?_
      rintro e w3 ⟨rfl, rfl⟩
      go_wp2
      refine hK8 _ _ (by trivial) ?_; clear hK8; intro hS_7_8 hD
      refine rO 9 2 rfl hD ?_; clear hD; intro K9 hK9
      go_wp2
      refine hK9 _ _ (by trivial) ?_; clear hK9; intro hS_7_9 hD
      refine rO 10 1 rfl hD ?_; clear hD; intro K10 hK10
      refine wpList_append_grows _ rfl (.tmp 34) (.tmp 38) 187 rfl 9 i0 (.string ⟨#[]⟩) 1 16 Tryz.underlying187 hi hz0 hz1 hz2 rfl (by decide) A N N ((l0 ++ l1.take j).map Value.string) rfl ?hnone ?hlo ?holds ⟨wd.heap.size, 0, none⟩ 1 1 [.string x] rfl rfl ?c1 ?c2 (by omega) ?b1 ?b2 ?_
      case hnone =>
        intro e
        have h1 := HSD.out.2.1 e
        have h2 := HSD.out.1.2.1
        omega
      case hlo => rw [List.length_map, HSD.out.1.1, Nat.mul_one]
      case holds =>
        intro b e i u hu
        subst e
        exact cell_kept ((Below.refl _ _).alloc (Nat.le_refl _) _) (Nat.le_refl _) (HSD.out.1.cells i u hu)
      case c1 =>
        intro i u hu
        match i, hu with
        | 0, hu => simp at hu; subst hu; simp [Addr.add]
        | (i + 1), hu => simp at hu
      case c2 => intro u hu; simp at hu; subst hu; rfl
      case b1 => have := HN.out; have := HNN.out; have := HLT.out; unfold maxLen; omega
      case b2 => have := HN.out; have := HNN.out; have := HLT.out; omega
      intro v' w4 hown hgrow
      obtain ⟨A4, c4, rfl, hs4⟩ := SlS.of_owns (l := l0 ++ l1.take j ++ [x]) (by rw [List.map_append, List.map_singleton]; exact hown)
      have hb4 : Below wd.heap.size wd w4 := ((Below.refl _ _).alloc (Nat.le_refl _) _).grown hgrow (by simp) (fun k e => by cases e)
      have HS4 := Lib.hid hs4
      have HB4 := Lib.hid hb4
      clear hown hgrow hs4 hb4
      go_wp2
      refine hK10 _ _ (by trivial) ?_; clear hK10; intro hS_7_10 hD
      refine rO 11 0 rfl hD ?_; clear hD; intro K11 hK11
      go_wp2
      refine hK11 _ _ (by trivial) ?_; clear hK11; intro hS_7_11 hD
      refine wpAnyK_done (by kernel_rfl) ?_ 0
      clear hD
      go_wp2
      go_roundw
      case rel =>
        refine ⟨j + 1, c4, A4, HLT.out, by go_num, by rw [← HNN.out]; rfl, ?_, frb_kept HID.out HB4.out, HBD.out.trans (HB4.out.mono HZD.out), Nat.le_trans HZD.out HB4.out.size⟩
        rw [take_snocT HX.out, ← List.append_assoc, ← Nat.add_assoc, HNN.out]
        exact HS4.out
      case measure => have := HLT.out; simp [RowKit.intOf]; omega
    · obtain ⟨N, hN⟩ : ∃ N, n0 + n1 = N := ⟨_, rfl⟩
      have hjn : j = n1 := by omega
      have HS9 := Lib.hid (show SlS wr A N c (l0 ++ l1) from by
        have h := HS.out
        rw [hjn, hN, List.take_of_length_le (by rw [HL1.out]; exact Nat.le_refl _)] at h
        exact h)
      rw [show n0 + j = N from by omega]
      obtain ⟨L, hL⟩ : ∃ L, l0 ++ l1 = L := ⟨_, rfl⟩
      have HLL := Lib.hid (show L.length = N from by rw [← hL, List.length_append, HL0.out, HL1.out]; exact hN)
      have HN9 := Lib.hid (show N ≤ 1000 from by have := HN.out; omega)
      rw [hL] at HS9 HSZ
      have HLE := Lib.hid hL
      have HH9 := Lib.hid (show H = byteCells (k :: shE8 L.length) from by rw [← HH.out, HLL.out, ← hN, ← byteCells_append]; rfl)
      clear hjn hN hj HS hL
      go_wp2
      clear hlt
      go_loopw [43] (fun i wr => ∃ q : Nat, q ≤ N ∧ i = .int .i64 q ∧ SlS wr A N c L ∧ IsBuilder 194 5 w.heap.size w.heap.size (byteCells (k :: shE8 L.length ++ ptL (dt (L.take q)))) wr ∧ Below w.heap.size w wr ∧ w.heap.size ≤ wr.heap.size) (fun i _ => N - (RowKit.intOf i).toNat)
      case atStart => exact ⟨0, Nat.zero_le _, rfl, HS9.out, by have := HIB.out; rw [HH9.out] at this; simpa [dt, ptL] using this, HB.out, HZR.out⟩
      case round =>
        obtain ⟨q, hq, rfl, hs, hib, hb, hzr⟩ := hrel
        have HSQ := Lib.hid hs
        have HIQ := Lib.hid hib
        have HBQ := Lib.hid hb
        have HZQ := Lib.hid hzr
        clear hs hib hb hzr
        by_cases hlt : q < N
        · obtain ⟨b1, o1, rfl⟩ := HSQ.out.1.head (by omega)
          obtain ⟨x, hx⟩ : ∃ x, L[q]? = some x := ⟨_, List.getElem?_eq_getElem (by have := HLL.out; omega)⟩
          have hcx := HSQ.out.1.get? q hx
          have hxs : x.size ≤ 1000000 := HSZ.out x (List.mem_of_getElem? hx)
          have HPL := Lib.hid (ptL_le HSZ.out q)
          have HPN := Lib.hid (show L.length * (8 + 1000000) ≤ 1000 * (8 + 1000000) from Nat.mul_le_mul_right _ (by rw [HLL.out]; exact HN9.out))
          have HXQ := Lib.hid hx
          have HLQ := Lib.hid hlt
          have hq9 : (q : Int) < 1000 := by have := HN9.out; omega
          obtain ⟨pre, hpre⟩ : ∃ p, k :: shE8 L.length ++ ptL (dt (L.take q)) = p := ⟨_, rfl⟩
          have HPP := Lib.hid hpre
          rw [hpre] at HIQ
          have HPR := Lib.hid (show pre.length ≤ 2000000000 from by
            rw [← hpre]
            have h1 := HPL.out
            have h2 := HPN.out
            simp [shE8]
            omega)
          have h8 := fr_eight w.heap.size w.heap.size (byteCells pre) x.size (by omega) wr HIQ.out (by rw [byteCells_length]; have := HPR.out; omega) HZQ.out
          have H8Q := Lib.hid h8
          have HXS := Lib.hid hxs
          clear hx hq h8 hpre hxs
          go_wp2_with fail
          refine H8Q.out.mono ?_
          rintro e w3 ⟨rfl, hi3, hb3, hk3⟩
          have HI3 := Lib.hid hi3
          have HB3 := Lib.hid (HBQ.out.trans hb3)
          have HS3 := Lib.hid (HSQ.out.keptS hk3)
          have HZ3 := Lib.hid (Nat.le_trans HZQ.out hb3.size)
          clear hi3 hb3 hk3 hcx
          go_wp2_with fail
          refine (frb_WriteString _ _ _ x _ HI3.out (by rw [List.length_append, byteCells_length, byteCells_length]; have := HPR.out; have := HXS.out; simp [shE8]; omega) HZ3.out).mono ?_
          rintro e w4 ⟨rfl, hi4, hb4, hk4⟩
          rw [Lib.strCells_eq, ← byteCells_append, ← byteCells_append] at hi4
          have HI4 := Lib.hid hi4
          have HB4 := Lib.hid (HB3.out.trans hb4)
          have HS4 := Lib.hid (HS3.out.keptS hk4)
          have HZ4 := Lib.hid (Nat.le_trans HZ3.out hb4.size)
          clear hi4 hb4 hk4
          go_wp2
          go_roundw
          case rel =>
            refine ⟨q + 1, HLQ.out, by go_num, HS4.out, ?_, HB4.out, HZ4.out⟩
            rw [take_snocT HXQ.out, dt_snoc, ptL_snoc, data_len, ← List.append_assoc, ← List.append_assoc, HPP.out]
            exact HI4.out
          case measure => have := HLQ.out; simp [RowKit.intOf]; omega
        · have hqn : q = N := by omega
          have HIZ := Lib.hid (show IsBuilder 194 5 w.heap.size w.heap.size (byteCells (frL k (dt L))) wr from by
            have h := HIQ.out
            rw [hqn, List.take_of_length_le (by rw [HLL.out]; exact Nat.le_refl _)] at h
            unfold frL
            rw [dt_length]
            exact h)
          have HPL := Lib.hid (ptL_le HSZ.out N)
          have HPN := Lib.hid (show L.length * (8 + 1000000) ≤ 1000 * (8 + 1000000) from Nat.mul_le_mul_right _ (by rw [HLL.out]; exact HN9.out))
          have hfl : (frL k (dt L)).length ≤ 1000000000000 := by
            have h1 := HPL.out
            have h2 := HPN.out
            rw [List.take_of_length_le (by rw [HLL.out]; exact Nat.le_refl _)] at h1
            unfold frL
            simp [shE8]
            omega
          have HFL := Lib.hid hfl
          obtain ⟨F, hF⟩ : ∃ F, frL k (dt L) = F := ⟨_, rfl⟩
          have HR := Lib.hid (show trH k (dt L) = shaL F from by rw [← hF]; rfl)
          rw [hF] at HIZ HFL
          clear hqn hfl hF HIQ hq HSQ
          go_wp2_with fail
          refine (frb_String _ _ F _ HIZ.out HZQ.out).mono ?_
          rintro e w3 ⟨rfl, hk3⟩
          have HB3 := Lib.hid (HBQ.out.trans hk3.1)
          have HZ3 := Lib.hid (Nat.le_trans HZQ.out hk3.1.size)
          clear hk3
          have hsz : (bstr F).size ≤ 1000000000000 := by rw [bstr_size]; exact HFL.out
          have HSUM := Lib.hid (h_Sum (bstr F) hsz)
          rw [bstr_data] at HSUM
          clear hsz
          go_wp2_with fail
          refine (HSUM.out _).mono ?_
          rintro e w4 ⟨rfl, hb4⟩
          have HB4 := Lib.hid (HB3.out.trans (hb4.mono HZ3.out))
          clear hb4
          go_wp2
          go_ret
          exact ⟨by rw [HLE.out, HR.out]; rfl, HB4.out⟩
set_option maxRecDepth 100000 in
set_option maxHeartbeats 4000000 in
theorem tr_framedN (k : UInt8) (A0 : Option Addr) (n0 c0 : Nat) (l0 : List ByteArray) (A1 : Option Addr) (n1 c1 : Nat) (l1 : List ByteArray) (hn : n0 + n1 ≤ 1000) (hz : ∀ s ∈ l0 ++ l1, s.size ≤ 1000000) (w : World) (h0 : SlS w A0 n0 c0 l0) (h1 : SlN w A1 n1 c1 l1) :
    Calls Tryz.prog 178 #[.int .u8 (k.toNat : Int), .slice A0 n0 c0, .slice A1 n1 c1, .func (.func 179) #[] #[]] w (Ret (.string (bstr (trH k (dt (l0 ++ l1))))) w) := by
  obtain ⟨i0, hi, hz0, hz1, hz2⟩ := info_parts str_info
  have hib := Lib.fresh_isBuilder 194 5 w
  have hb0 : Below w.heap.size w (w.alloc (.cells #[.pointer none, .slice none 0 0] 194)) := (Below.refl _ _).alloc (Nat.le_refl _) _
  obtain ⟨W0, hW0⟩ : ∃ W, w.alloc (.cells #[.pointer none, .slice none 0 0] 194) = W := ⟨_, rfl⟩
  have hzw : w.heap.size ≤ W0.heap.size := by rw [← hW0]; simp
  rw [hW0] at hib hb0
  have HIB := Lib.hid hib
  have HB0 := Lib.hid hb0
  have HS0 := Lib.hid (h0.kept hb0)
  have HM1 := Lib.hid h1
  have HZ0 := Lib.hid hzw
  have HSZ := Lib.hid hz
  have HN := Lib.hid hn
  have HL0 := Lib.hid h0.1.1
  have HL1 := Lib.hid h1.1
  clear hib hb0 h0 hzw hz h1
  go_enter Tryz.func178, Tryz.ntmps178
  go_wp2_with fail
  try rw [hW0]
  clear hW0
  refine (frb_WriteByte _ _ [] (k.toNat : Int) _ HIB.out (by simp) HZ0.out).mono ?_
  rintro e w1 ⟨rfl, hi1, hb1, hk1⟩
  have HI1 := Lib.hid (show IsBuilder 194 5 w.heap.size w.heap.size (byteCells [k]) w1 from hi1)
  have HB1 := Lib.hid (HB0.out.trans hb1)
  have HS1 := Lib.hid (HS0.out.keptS hk1)
  have HZ1 := Lib.hid (Nat.le_trans HZ0.out hb1.size)
  clear hi1 hb1 hk1
  have h8 := fr_eight w.heap.size w.heap.size (byteCells [k]) (n0 + n1) (by omega) w1 HI1.out (by simp [byteCells]) HZ1.out
  rw [Int.natCast_add] at h8
  have H8 := Lib.hid h8
  have hni : (n0 : Int) + (n1 : Int) ≤ 1000 := by omega
  clear h8 hn
  go_wp2_with fail
  refine H8.out.mono ?_
  rintro e w2 ⟨rfl, hi2, hb2, hk2⟩
  have HI2 := Lib.hid hi2
  have HB2 := Lib.hid (HB1.out.trans hb2)
  have HS2 := Lib.hid (HS1.out.keptS hk2)
  have HZ2 := Lib.hid (Nat.le_trans HZ1.out hb2.size)
  clear hi2 hb2 hk2
  obtain ⟨H, hH⟩ : ∃ H, byteCells [k] ++ byteCells (shE8 (n0 + n1)) = H := ⟨_, rfl⟩
  have HH := Lib.hid hH
  rw [hH] at HI2
  clear hH
  go_wp2
  go_loopw [1, 25] (fun v i wr => ∃ (j c : Nat) (A : Option Addr), j ≤ n1 ∧ i = .int .i64 j ∧ v = .slice A (n0 + j) c ∧ SlS wr A (n0 + j) c (l0 ++ l1.take j) ∧ IsBuilder 194 5 w.heap.size w.heap.size H wr ∧ Below w.heap.size w wr ∧ w.heap.size ≤ wr.heap.size) (fun _ i _ => n1 - (RowKit.intOf i).toNat)
  case atStart => exact ⟨0, c0, A0, Nat.zero_le _, rfl, rfl, by simpa using HS2.out, HI2.out, HB2.out, HZ2.out⟩
  case round =>
    obtain ⟨j, c, A, hj, rfl, rfl, hs, hib, hb, hzr⟩ := hrel
    have HS := Lib.hid hs
    have HIB := Lib.hid hib
    have HB := Lib.hid hb
    have HZR := Lib.hid hzr
    clear hs hib hb hzr
    by_cases hlt : j < n1
    · obtain ⟨b1, o1, rfl⟩ := HM1.out.head (by omega)
      obtain ⟨x, hx⟩ : ∃ x, l1[j]? = some x := ⟨_, List.getElem?_eq_getElem (by have := HL1.out; omega)⟩
      have hcx := (HM1.out.kept HB.out (Nat.le_refl _)).get? j hx
      have HX := Lib.hid hx
      obtain ⟨N, hN⟩ : ∃ N, n0 + j = N := ⟨_, rfl⟩
      have HNN := Lib.hid hN
      rw [hN] at HS ⊢
      have hNc : N ≤ c := HS.out.1.2.1
      have HLT := Lib.hid hlt
      clear hN hx hj
      go_wp2
      obtain ⟨wd, hwd⟩ : ∃ wd, wr.drew = wd := ⟨_, rfl⟩
      have hbd : Below wr.heap.size wr wd := by rw [← hwd]; exact (Below.refl _ _).drew
      have HSD := Lib.hid (HS.out.kept hbd)
      have HID := Lib.hid (show IsBuilder 194 5 w.heap.size w.heap.size H wd from by rw [← hwd]; exact frb_drew HIB.out)
      have HBD := Lib.hid (HB.out.trans (hbd.mono HZR.out))
      have HZD := Lib.hid (Nat.le_trans HZR.out hbd.size)
      clear hbd hcx
      refine wp_region_K 12 (fun _ => True) (by kernel_rfl) ?_
      intro hD
      rw [hwd]
      refine rP 0 29 11 rfl hD trivial ?_; clear hD; intro hD; simp only [Act.put, sqA, sqB, sqC]
      refine rP 1 30 10 rfl hD trivial ?_; clear hD; intro hD; simp only [Act.put, sqA, sqB, sqC]
      refine rP 2 31 9 rfl hD trivial ?_; clear hD; intro hD; simp only [Act.put, sqA, sqB, sqC]
      refine rP 3 32 8 rfl hD trivial ?_; clear hD; intro hD; simp only [Act.put, sqA, sqB, sqC]
      refine rP 4 33 7 rfl hD trivial ?_; clear hD; intro hD; simp only [Act.put, sqA, sqB, sqC]
      refine wpAnyK_takeSD (i := 5) (d := some 34) (v := (.slice A N N)) (fuel := 6) rfl (by kernel_rfl) (by kernel_rfl) (by kernel_rfl) (fun _ _ _ h => h) hD trivial (.inl ⟨by kernel_rfl, ?y7_5b2⟩) ?n7_5b2
      case y7_5b2 =>
        intro w' _
        exact full_run (.tmp 29) (.tmp 31) (.tmp 33) rfl rfl rfl rfl hNc w'
      clear hD; intro hD
      simp only [Act.put, sqA, sqB, sqC]
      refine rP 6 35 5 rfl hD trivial ?_; clear hD; intro hD; simp only [Act.put, sqA, sqB, sqC]
      refine rP 7 36 4 rfl hD trivial ?_; clear hD; intro hD; simp only [Act.put, sqA, sqB, sqC]
      refine rO 8 3 rfl hD ?_; clear hD; intro K8 hK8
      go_wp2_with fail
      refine (tr_idN x _).mono ?_
      rintro e w3 ⟨rfl, rfl⟩
      go_wp2
      refine hK8 _ _ (by trivial) ?_; clear hK8; intro hS_7_8 hD
      refine rO 9 2 rfl hD ?_; clear hD; intro K9 hK9
      go_wp2
      refine hK9 _ _ (by trivial) ?_; clear hK9; intro hS_7_9 hD
      refine rO 10 1 rfl hD ?_; clear hD; intro K10 hK10
      refine wpList_append_grows _ rfl (.tmp 34) (.tmp 38) 187 rfl 9 i0 (.string ⟨#[]⟩) 1 16 Tryz.underlying187 hi hz0 hz1 hz2 rfl (by decide) A N N ((l0 ++ l1.take j).map Value.string) rfl ?hnone ?hlo ?holds ⟨wd.heap.size, 0, none⟩ 1 1 [.string x] rfl rfl ?c1 ?c2 (by omega) ?b1 ?b2 ?_
      case hnone =>
        intro e
        have h1 := HSD.out.2.1 e
        have h2 := HSD.out.1.2.1
        omega
      case hlo => rw [List.length_map, HSD.out.1.1, Nat.mul_one]
      case holds =>
        intro b e i u hu
        subst e
        exact cell_kept ((Below.refl _ _).alloc (Nat.le_refl _) _) (Nat.le_refl _) (HSD.out.1.cells i u hu)
      case c1 =>
        intro i u hu
        match i, hu with
        | 0, hu => simp at hu; subst hu; simp [Addr.add]
        | (i + 1), hu => simp at hu
      case c2 => intro u hu; simp at hu; subst hu; rfl
      case b1 => have := HN.out; have := HNN.out; have := HLT.out; unfold maxLen; omega
      case b2 => have := HN.out; have := HNN.out; have := HLT.out; omega
      intro v' w4 hown hgrow
      obtain ⟨A4, c4, rfl, hs4⟩ := SlS.of_owns (l := l0 ++ l1.take j ++ [x]) (by rw [List.map_append, List.map_singleton]; exact hown)
      have hb4 : Below wd.heap.size wd w4 := ((Below.refl _ _).alloc (Nat.le_refl _) _).grown hgrow (by simp) (fun k e => by cases e)
      have HS4 := Lib.hid hs4
      have HB4 := Lib.hid hb4
      clear hown hgrow hs4 hb4
      go_wp2
      refine hK10 _ _ (by trivial) ?_; clear hK10; intro hS_7_10 hD
      refine rO 11 0 rfl hD ?_; clear hD; intro K11 hK11
      go_wp2
      refine hK11 _ _ (by trivial) ?_; clear hK11; intro hS_7_11 hD
      refine wpAnyK_done (by kernel_rfl) ?_ 0
      clear hD
      go_wp2
      go_roundw
      case rel =>
        refine ⟨j + 1, c4, A4, HLT.out, by go_num, by rw [← HNN.out]; rfl, ?_, frb_kept HID.out HB4.out, HBD.out.trans (HB4.out.mono HZD.out), Nat.le_trans HZD.out HB4.out.size⟩
        rw [take_snocT HX.out, ← List.append_assoc, ← Nat.add_assoc, HNN.out]
        exact HS4.out
      case measure => have := HLT.out; simp [RowKit.intOf]; omega
    · obtain ⟨N, hN⟩ : ∃ N, n0 + n1 = N := ⟨_, rfl⟩
      have hjn : j = n1 := by omega
      have HS9 := Lib.hid (show SlS wr A N c (l0 ++ l1) from by
        have h := HS.out
        rw [hjn, hN, List.take_of_length_le (by rw [HL1.out]; exact Nat.le_refl _)] at h
        exact h)
      rw [show n0 + j = N from by omega]
      obtain ⟨L, hL⟩ : ∃ L, l0 ++ l1 = L := ⟨_, rfl⟩
      have HLL := Lib.hid (show L.length = N from by rw [← hL, List.length_append, HL0.out, HL1.out]; exact hN)
      have HN9 := Lib.hid (show N ≤ 1000 from by have := HN.out; omega)
      rw [hL] at HS9 HSZ
      have HLE := Lib.hid hL
      have HH9 := Lib.hid (show H = byteCells (k :: shE8 L.length) from by rw [← HH.out, HLL.out, ← hN, ← byteCells_append]; rfl)
      clear hjn hN hj HS hL
      go_wp2
      clear hlt
      go_loopw [43] (fun i wr => ∃ q : Nat, q ≤ N ∧ i = .int .i64 q ∧ SlS wr A N c L ∧ IsBuilder 194 5 w.heap.size w.heap.size (byteCells (k :: shE8 L.length ++ ptL (dt (L.take q)))) wr ∧ Below w.heap.size w wr ∧ w.heap.size ≤ wr.heap.size) (fun i _ => N - (RowKit.intOf i).toNat)
      case atStart => exact ⟨0, Nat.zero_le _, rfl, HS9.out, by have := HIB.out; rw [HH9.out] at this; simpa [dt, ptL] using this, HB.out, HZR.out⟩
      case round =>
        obtain ⟨q, hq, rfl, hs, hib, hb, hzr⟩ := hrel
        have HSQ := Lib.hid hs
        have HIQ := Lib.hid hib
        have HBQ := Lib.hid hb
        have HZQ := Lib.hid hzr
        clear hs hib hb hzr
        by_cases hlt : q < N
        · obtain ⟨b1, o1, rfl⟩ := HSQ.out.1.head (by omega)
          obtain ⟨x, hx⟩ : ∃ x, L[q]? = some x := ⟨_, List.getElem?_eq_getElem (by have := HLL.out; omega)⟩
          have hcx := HSQ.out.1.get? q hx
          have hxs : x.size ≤ 1000000 := HSZ.out x (List.mem_of_getElem? hx)
          have HPL := Lib.hid (ptL_le HSZ.out q)
          have HPN := Lib.hid (show L.length * (8 + 1000000) ≤ 1000 * (8 + 1000000) from Nat.mul_le_mul_right _ (by rw [HLL.out]; exact HN9.out))
          have HXQ := Lib.hid hx
          have HLQ := Lib.hid hlt
          have hq9 : (q : Int) < 1000 := by have := HN9.out; omega
          obtain ⟨pre, hpre⟩ : ∃ p, k :: shE8 L.length ++ ptL (dt (L.take q)) = p := ⟨_, rfl⟩
          have HPP := Lib.hid hpre
          rw [hpre] at HIQ
          have HPR := Lib.hid (show pre.length ≤ 2000000000 from by
            rw [← hpre]
            have h1 := HPL.out
            have h2 := HPN.out
            simp [shE8]
            omega)
          have h8 := fr_eight w.heap.size w.heap.size (byteCells pre) x.size (by omega) wr HIQ.out (by rw [byteCells_length]; have := HPR.out; omega) HZQ.out
          have H8Q := Lib.hid h8
          have HXS := Lib.hid hxs
          clear hx hq h8 hpre hxs
          go_wp2_with fail
          refine H8Q.out.mono ?_
          rintro e w3 ⟨rfl, hi3, hb3, hk3⟩
          have HI3 := Lib.hid hi3
          have HB3 := Lib.hid (HBQ.out.trans hb3)
          have HS3 := Lib.hid (HSQ.out.keptS hk3)
          have HZ3 := Lib.hid (Nat.le_trans HZQ.out hb3.size)
          clear hi3 hb3 hk3 hcx
          go_wp2_with fail
          refine (frb_WriteString _ _ _ x _ HI3.out (by rw [List.length_append, byteCells_length, byteCells_length]; have := HPR.out; have := HXS.out; simp [shE8]; omega) HZ3.out).mono ?_
          rintro e w4 ⟨rfl, hi4, hb4, hk4⟩
          rw [Lib.strCells_eq, ← byteCells_append, ← byteCells_append] at hi4
          have HI4 := Lib.hid hi4
          have HB4 := Lib.hid (HB3.out.trans hb4)
          have HS4 := Lib.hid (HS3.out.keptS hk4)
          have HZ4 := Lib.hid (Nat.le_trans HZ3.out hb4.size)
          clear hi4 hb4 hk4
          go_wp2
          go_roundw
          case rel =>
            refine ⟨q + 1, HLQ.out, by go_num, HS4.out, ?_, HB4.out, HZ4.out⟩
            rw [take_snocT HXQ.out, dt_snoc, ptL_snoc, data_len, ← List.append_assoc, ← List.append_assoc, HPP.out]
            exact HI4.out
          case measure => have := HLQ.out; simp [RowKit.intOf]; omega
        · have hqn : q = N := by omega
          have HIZ := Lib.hid (show IsBuilder 194 5 w.heap.size w.heap.size (byteCells (frL k (dt L))) wr from by
            have h := HIQ.out
            rw [hqn, List.take_of_length_le (by rw [HLL.out]; exact Nat.le_refl _)] at h
            unfold frL
            rw [dt_length]
            exact h)
          have HPL := Lib.hid (ptL_le HSZ.out N)
          have HPN := Lib.hid (show L.length * (8 + 1000000) ≤ 1000 * (8 + 1000000) from Nat.mul_le_mul_right _ (by rw [HLL.out]; exact HN9.out))
          have hfl : (frL k (dt L)).length ≤ 1000000000000 := by
            have h1 := HPL.out
            have h2 := HPN.out
            rw [List.take_of_length_le (by rw [HLL.out]; exact Nat.le_refl _)] at h1
            unfold frL
            simp [shE8]
            omega
          have HFL := Lib.hid hfl
          obtain ⟨F, hF⟩ : ∃ F, frL k (dt L) = F := ⟨_, rfl⟩
          have HR := Lib.hid (show trH k (dt L) = shaL F from by rw [← hF]; rfl)
          rw [hF] at HIZ HFL
          clear hqn hfl hF HIQ hq HSQ
          go_wp2_with fail
          refine (frb_String _ _ F _ HIZ.out HZQ.out).mono ?_
          rintro e w3 ⟨rfl, hk3⟩
          have HB3 := Lib.hid (HBQ.out.trans hk3.1)
          have HZ3 := Lib.hid (Nat.le_trans HZQ.out hk3.1.size)
          clear hk3
          have hsz : (bstr F).size ≤ 1000000000000 := by rw [bstr_size]; exact HFL.out
          have HSUM := Lib.hid (h_Sum (bstr F) hsz)
          rw [bstr_data] at HSUM
          clear hsz
          go_wp2_with fail
          refine (HSUM.out _).mono ?_
          rintro e w4 ⟨rfl, hb4⟩
          have HB4 := Lib.hid (HB3.out.trans (hb4.mono HZ3.out))
          clear hb4
          go_wp2
          go_ret
          exact ⟨by rw [HLE.out, HR.out]; rfl, HB4.out⟩
end Go.Proofs.YtndmjfkmnjejkaaGreatDoor
/- Walk: the reference's schedule. -/
set_option linter.unusedVariables false
set_option linter.unusedSimpArgs false
namespace Go.Proofs.YtndmjfkmnjejkaaGreatDoor
open Go.RowKit Go.Lib
theorem word_info : (Tryz.prog.info? 216).map (fun i => (i.zero, i.size, i.bytes)) = some (some (.int .u32 0), 1, 4) := by kernel_rfl
theorem make_words (n : Nat) (hn : n ≤ 1000000) (w : World) : (Instr.makeSlice 173 (.int .i64 n) (.int .i64 n)).run Tryz.prog w = .ok (.slice (some ⟨w.heap.size, 0, none⟩) n n) (w.alloc (.cells (madeCells #[.int .u32 0] n) 216)) := by
  obtain ⟨i0, hi, hz0, hz1, hz2⟩ := info_parts word_info
  have h := run_make (P := Tryz.prog) w 173 216 i0 (.int .u32 0) Tryz.underlying173 hi hz0 .i64 .i64 (n : Int) (n : Int) (by omega) (Int.le_refl _) (by rw [hz2]; omega) (by omega)
  rw [h, hz1, Int.toNat_natCast, Nat.mul_one]
  rfl
theorem index_byte_run {op : Oper} {ρ : Operand → Value} {w : World} (x i : Operand) (ho : op.op = .index 9 x i) (s : ByteArray) (p : Nat) (hx : ρ x = .string s) (hi : ρ i = .int .i64 (p : Int)) (hp : p < s.size) {v : Nat} (hv : (s.data.toList.getD p 0).toNat = v) :
    (execOp ρ op).run Tryz.prog w = .ok (.value (.int .u8 (v : Int))) w := by
  subst hv
  have h1 : s[p]? = some s[p] := by simp [hp]
  have h2 : s.data.toList.getD p 0 = s[p] := data_getD s p hp
  rw [h2]
  unfold execOp
  simp [ho, hx, hi, Instr.index, asIntOf, run_underlying Tryz.underlying9, h1, Result.andThen]
theorem sched_val2 (X16 X15 X7 X2 : BitVec 32) : (((wi X16 + bits .xor .u32 (bits .xor .u32 (wi (rr X15 7)) (wi (rr X15 18))) (wi X15 / 8)) % 4294967296 + wi X7) % 4294967296 + bits .xor .u32 (bits .xor .u32 (wi (rr X2 17)) (wi (rr X2 19))) (wi X2 / 1024)) % 4294967296 = wi (X16 + sg0 X15 + X7 + sg1 X2) := by
  rw [show (8 : Int) = 2 ^ 3 from rfl, show (1024 : Int) = 2 ^ 10 from rfl, wi_div, wi_div, wi_xor, wi_xor, wi_xor, wi_xor, mod_val, mod_val, mod_val]
  rfl
def pb (m : List UInt8) (i : Nat) : Nat → Nat
  | 0 => 0
  | q + 1 => pb m i q * 256 + (m.getD (4 * i + q) 0).toNat
theorem pb_four (m : List UInt8) (i : Nat) : BitVec.ofNat 32 (pb m i 4) = wd m i := by simp [pb, wd]
theorem step_val (p b : Nat) : (wi (BitVec.ofNat 32 p) * 256 % 4294967296 + (b : Int)) % 4294967296 = wi (BitVec.ofNat 32 (p * 256 + b)) := by
  unfold wi
  rw [BitVec.toNat_ofNat, BitVec.toNat_ofNat]
  omega
def wq (m : List UInt8) (i q : Nat) (j : Nat) : BitVec 32 := if j = i then BitVec.ofNat 32 (pb m i q) else wz m i j
theorem wq_zero (m : List UInt8) (i : Nat) : wq m i 0 = wz m i := by
  funext j
  unfold wq wz
  by_cases h : j = i
  · subst h; rw [if_pos rfl, if_neg (Nat.lt_irrefl _)]; rfl
  · rw [if_neg h]
theorem wq_four (m : List UInt8) (i : Nat) (h : i < 16) : wq m i 4 = wz m (i + 1) := by
  funext j
  unfold wq wz
  by_cases e : j = i
  · subst e; rw [if_pos rfl, if_pos (Nat.lt_succ_self _), pb_four, wv_low m h]
  · rw [if_neg e]
    by_cases h2 : j < i
    · rw [if_pos h2, if_pos (by omega)]
    · rw [if_neg h2, if_neg (by omega)]
set_option maxRecDepth 100000 in
set_option maxHeartbeats 2000000 in
theorem r05_schedule (s : ByteArray) (hs : s.size = 64) (w : World) : Calls Tryz.prog 239 #[.string s] w fun e w' => e = .returned (.slice (some ⟨w.heap.size, 0, none⟩) 64 64) ∧ RowW w' w.heap.size 64 216 (wv s.data.toList) ∧ Below w.heap.size w w' := by
  obtain ⟨m, hm⟩ : ∃ m, s.data.toList = m := ⟨_, rfl⟩
  have HM := Lib.hid hm
  rw [hm]
  clear hm
  have hmk : (Instr.makeSlice 173 (.int .i64 64) (.int .i64 64)).run Tryz.prog w = .ok (.slice (some ⟨w.heap.size, 0, none⟩) 64 64) (w.alloc (.cells (madeCells #[.int .u32 0] 64) 216)) := make_words 64 (by decide) w
  obtain ⟨w1, hw1⟩ : ∃ w1, w.alloc (.cells (madeCells #[.int .u32 0] 64) 216) = w1 := ⟨_, rfl⟩
  have HR1 := Lib.hid (show RowW w1 w.heap.size 64 216 (wz m 0) from by
    rw [show wz m 0 = fun _ => 0 from funext fun j => rfl]; unfold RowW; rw [wa_zero, ← hw1]; exact heap_alloc_new _ _)
  have HB1 := Lib.hid (show Below w.heap.size w w1 from hw1 ▸ (Below.refl _ _).alloc (Nat.le_refl _) _)
  rw [hw1] at hmk
  clear hw1
  obtain ⟨H, hH⟩ : ∃ H, w.heap.size = H := ⟨_, rfl⟩
  rw [hH] at HR1 HB1 hmk ⊢
  go_enter Tryz.func239, Tryz.ntmps239
  go_wp2
  clear hmk
  go_loopw [4] (fun i wr => ∃ k : Nat, k ≤ 16 ∧ i = .int .i64 k ∧ RowW wr H 64 216 (wz m k) ∧ Below H w wr) (fun i _ => 16 - (RowKit.intOf i).toNat)
  case atStart => exact ⟨0, Nat.zero_le _, rfl, HR1.out, HB1.out⟩
  case round =>
    obtain ⟨k, hk, rfl, hR, hBR⟩ := hrel
    have HR := Lib.hid hR
    have HB := Lib.hid hBR
    clear hR hBR
    by_cases hlt : k < 16
    · have hlti : (k : Int) < 16 := by omega
      have hk64 : (k : Int) < 64 := by omega
      go_wp2
      go_loopw [5] (fun i wr => ∃ q : Nat, q ≤ 4 ∧ i = .int .i64 q ∧ RowW wr H 64 216 (wq m k q) ∧ Below H w wr) (fun i _ => 4 - (RowKit.intOf i).toNat)
      case atStart => exact ⟨0, Nat.zero_le _, rfl, by rw [wq_zero]; exact HR.out, HB.out⟩
      case round =>
        obtain ⟨q, hq, rfl, hR, hBR⟩ := hrel
        have HR := Lib.hid hR
        have HB := Lib.hid hBR
        clear hR hBR
        by_cases hq4 : q < 4
        · have hq4i : (q : Int) < 4 := by omega
          have c0 := HR.out.drew.cell (show k < 64 by omega)
          have hf := HR.out.drew.free k
          rw [show wq m k q k = BitVec.ofNat 32 (pb m k q) from by unfold wq; rw [if_pos rfl]] at c0
          obtain ⟨y, hy⟩ : ∃ y, BitVec.ofNat 32 (pb m k q) = y := ⟨_, rfl⟩
          rw [hy] at c0
          have HY := Lib.hid hy
          clear hy
          obtain ⟨p, hp⟩ : ∃ p, 4 * k + q = p := ⟨_, rfl⟩
          have hpi : 4 * (k : Int) + (q : Int) = (p : Int) := by omega
          have hp64 : (p : Int) < 64 := by omega
          have hwa : IntKind.i64.wrap (4 * (k : Int)) = 4 * (k : Int) := by rw [IntKind.wrap_i64]; omega
          have hwb : IntKind.i64.wrap (p : Int) = (p : Int) := by rw [IntKind.wrap_i64]; omega
          have HPS := Lib.hid (show p < s.size from by omega)
          obtain ⟨x, hx⟩ : ∃ x, (m.getD p 0).toNat = x := ⟨_, rfl⟩
          have hx255 : x ≤ 255 := by rw [← hx]; have := (m.getD p 0).toNat_lt; omega
          have HXX := Lib.hid hx
          have HP := Lib.hid hp
          clear hx hp
          obtain ⟨wd, hwd⟩ : ∃ wd, wr.drew = wd := ⟨_, rfl⟩
          rw [hwd] at c0 hf
          go_wp2
          refine wp_region_K 16 (Eq wd) (by kernel_rfl) ?_
          intro hD
          rw [hwd]
          refine wpAnyK_pureD (i := 0) (d := some 20) (v := ?v8_0b1) (fuel := 16) rfl (by kernel_rfl) (by kernel_rfl) (fun _ _ _ h => h) hD rfl (.inl ⟨by kernel_rfl, ?y8_0b1⟩) ?n8_0b1
          case y8_0b1 => intro w' _; go_simp; with_reducible rfl
          clear hD; intro hD
          simp only [Act.put, sqA, sqB, sqC]
          refine wpAnyK_pureD (i := 1) (d := some 21) (v := ?v8_1b1) (fuel := 15) rfl (by kernel_rfl) (by kernel_rfl) (fun _ _ _ h => h) hD rfl (.inl ⟨by kernel_rfl, ?y8_1b1⟩) ?n8_1b1
          case y8_1b1 => intro w' _; go_simp; with_reducible rfl
          clear hD; intro hD
          simp only [Act.put, sqA, sqB, sqC]
          refine wpAnyK_pureD (i := 2) (d := some 22) (v := ?v8_2b1) (fuel := 14) rfl (by kernel_rfl) (by kernel_rfl) (fun _ _ _ h => h) hD rfl (.inl ⟨by kernel_rfl, ?y8_2b1⟩) ?n8_2b1
          case y8_2b1 => intro w' _; go_simp; with_reducible rfl
          clear hD; intro hD
          simp only [Act.put, sqA, sqB, sqC]
          refine wpAnyK_pureD (i := 3) (d := some 23) (v := ?v8_3b1) (fuel := 13) rfl (by kernel_rfl) (by kernel_rfl) (fun _ _ _ h => h) hD rfl (.inl ⟨by kernel_rfl, ?y8_3b1⟩) ?n8_3b1
          case y8_3b1 => intro w' _; go_simp; with_reducible rfl
          clear hD; intro hD
          simp only [Act.put, sqA, sqB, sqC]
          refine wpAnyK_pureD (i := 4) (d := some 24) (v := ?v8_4b1) (fuel := 12) rfl (by kernel_rfl) (by kernel_rfl) (fun _ _ _ h => h) hD rfl (.inl ⟨by kernel_rfl, ?y8_4b1⟩) ?n8_4b1
          case y8_4b1 => intro w' _; go_simp; with_reducible rfl
          clear hD; intro hD
          simp only [Act.put, sqA, sqB, sqC]
          refine wpAnyK_takeD (i := 5) (d := some 25) (v := ?v8_5b1) (fuel := 11) rfl (by kernel_rfl) (by kernel_rfl) (by kernel_rfl) (fun _ _ _ h => h) hD rfl (.inl ⟨by kernel_rfl, ?y8_5b1⟩) ?n8_5b1
          case y8_5b1 => intro w' hS'; have e0 := (hS' ▸ c0); go_simp; with_reducible rfl
          clear hD; intro hD
          simp only [Act.put, sqA, sqB, sqC]
          refine wpAnyK_pureD (i := 6) (d := some 26) (v := ?v8_6b1) (fuel := 10) rfl (by kernel_rfl) (by kernel_rfl) (fun _ _ _ h => h) hD rfl (.inl ⟨by kernel_rfl, ?y8_6b1⟩) ?n8_6b1
          case y8_6b1 => intro w' _; go_simp; with_reducible rfl
          clear hD; intro hD
          simp only [Act.put, sqA, sqB, sqC]
          refine wpAnyK_pureD (i := 7) (d := some 27) (v := ?v8_7b1) (fuel := 9) rfl (by kernel_rfl) (by kernel_rfl) (fun _ _ _ h => h) hD rfl (.inl ⟨by kernel_rfl, ?y8_7b1⟩) ?n8_7b1
          case y8_7b1 => intro w' _; go_simp; with_reducible rfl
          clear hD; intro hD
          simp only [Act.put, sqA, sqB, sqC]
          refine wpAnyK_pureD (i := 8) (d := some 28) (v := ?v8_8b1) (fuel := 8) rfl (by kernel_rfl) (by kernel_rfl) (fun _ _ _ h => h) hD rfl (.inl ⟨by kernel_rfl, ?y8_8b1⟩) ?n8_8b1
          case y8_8b1 => intro w' _; go_simp; with_reducible rfl
          clear hD; intro hD
          simp only [Act.put, sqA, sqB, sqC]
          refine wpAnyK_pureD (i := 9) (d := some 29) (v := ?v8_9b1) (fuel := 7) rfl (by kernel_rfl) (by kernel_rfl) (fun _ _ _ h => h) hD rfl (.inl ⟨by kernel_rfl, ?y8_9b1⟩) ?n8_9b1
          case y8_9b1 => intro w' _; go_simp; with_reducible rfl
          clear hD; intro hD
          simp only [Act.put, sqA, sqB, sqC]
          refine wpAnyK_pureD (i := 10) (d := some 30) (v := ?v8_10b1) (fuel := 6) rfl (by kernel_rfl) (by kernel_rfl) (fun _ _ _ h => h) hD rfl (.inl ⟨by kernel_rfl, ?y8_10b1⟩) ?n8_10b1
          case y8_10b1 => intro w' _; go_simp; with_reducible rfl
          clear hD; intro hD
          simp only [Act.put, sqA, sqB, sqC]
          refine wpAnyK_pureD (i := 11) (d := some 31) (v := ?v8_11b1) (fuel := 5) rfl (by kernel_rfl) (by kernel_rfl) (fun _ _ _ h => h) hD rfl (.inl ⟨by kernel_rfl, ?y8_11b1⟩) ?n8_11b1
          case y8_11b1 => intro w' _; go_simp; with_reducible rfl
          clear hD; intro hD
          simp only [Act.put, sqA, sqB, sqC]
          refine wpAnyK_takeD (i := 12) (d := some 32) (v := (.int .u8 (x : Int))) (fuel := 4) rfl (by kernel_rfl) (by kernel_rfl) (by kernel_rfl) (fun _ _ _ h => h) hD rfl (.inl ⟨by kernel_rfl, ?y8_12b1⟩) ?n8_12b1
          case y8_12b1 =>
            intro w' hS'
            exact index_byte_run (.tmp 27) (.tmp 31) rfl s p rfl rfl HPS.out (by rw [HM.out]; exact HXX.out)
          clear hD; intro hD
          simp only [Act.put, sqA, sqB, sqC]
          refine wpAnyK_pureD (i := 13) (d := some 33) (v := ?v8_13b1) (fuel := 3) rfl (by kernel_rfl) (by kernel_rfl) (fun _ _ _ h => h) hD rfl (.inl ⟨by kernel_rfl, ?y8_13b1⟩) ?n8_13b1
          case y8_13b1 => intro w' _; go_simp; with_reducible rfl
          clear hD; intro hD
          simp only [Act.put, sqA, sqB, sqC]
          refine wpAnyK_pureD (i := 14) (d := some 34) (v := ?v8_14b1) (fuel := 2) rfl (by kernel_rfl) (by kernel_rfl) (fun _ _ _ h => h) hD rfl (.inl ⟨by kernel_rfl, ?y8_14b1⟩) ?n8_14b1
          case y8_14b1 => intro w' _; go_simp; with_reducible rfl
          clear hD; intro hD
          simp only [Act.put, sqA, sqB, sqC]
          refine wpAnyK_pureD (i := 15) (d := some 35) (v := ?v8_15b1) (fuel := 1) rfl (by kernel_rfl) (by kernel_rfl) (fun _ _ _ h => h) hD rfl (.inl ⟨by kernel_rfl, ?y8_15b1⟩) ?n8_15b1
          case y8_15b1 => intro w' _; go_simp; with_reducible rfl
          clear hD; intro hD
          simp only [Act.put, sqA, sqB, sqC]
          refine wpAnyK_oneT (i := 16) (fuel := 0) (by kernel_rfl) rfl hD (by kernel_rfl) ?_; clear hD; intro K16 hK16
          go_wp2
          refine hK16 _ _ ?_; clear hK16; intro hD
          refine wpAnyK_done (by kernel_rfl) ?_ 0
          clear hD
          rw [← HY.out, step_val]
          obtain ⟨V, hV⟩ : ∃ V, BitVec.ofNat 32 (pb m k q * 256 + x) = V := ⟨_, rfl⟩
          have HV := Lib.hid hV
          rw [hV, HY.out]
          clear hV
          go_wp2
          go_roundw
          case rel =>
            refine ⟨q + 1, by omega, by go_num, ?_, ?_⟩
            · rw [← hwd]
              refine (HR.out.drew.set k V).congr fun j hj => ?_
              unfold wq
              by_cases e : j = k
              · rw [if_pos e, if_pos e, ← HV.out, ← HXX.out, ← HP.out]; rfl
              · rw [if_neg e, if_neg e, if_neg e]
            · rw [← hwd]; exact HB.out.drew.setCell (Nat.le_refl _) _
          case measure => simp [RowKit.intOf]; omega
        · have HQ := Lib.hid (show q = 4 from by omega)
          have hq4i : ¬ ((q : Int) < 4) := by omega
          have HR2 := Lib.hid (show RowW wr H 64 216 (wz m (k + 1)) from by rw [← wq_four m k hlt, ← HQ.out]; exact HR.out)
          clear hq hq4 HQ HR
          go_wp2
          go_roundw
          case rel => exact ⟨k + 1, by omega, by go_num, HR2.out, HB.out⟩
          case measure => simp [RowKit.intOf]; omega
    · have HK := Lib.hid (show k = 16 from by omega)
      have hge : ¬ ((k : Int) < 16) := by omega
      have HR2 := Lib.hid (show RowW wr H 64 216 (wz m 16) from by rw [← HK.out]; exact HR.out)
      clear hk hlt HK HR
      go_wp2
      go_loopw [6] (fun i wr => ∃ k : Nat, 16 ≤ k ∧ k ≤ 64 ∧ i = .int .i64 k ∧ RowW wr H 64 216 (wz m k) ∧ Below H w wr) (fun i _ => 64 - (RowKit.intOf i).toNat)
      case atStart => exact ⟨16, Nat.le_refl _, by omega, rfl, HR2.out, HB.out⟩
      case round =>
        obtain ⟨k, hk0, hk, rfl, hR, hBR⟩ := hrel
        have HR := Lib.hid hR
        have HB := Lib.hid hBR
        clear hR hBR
        by_cases hlt : k < 64
        · have hlti : (k : Int) < 64 := by omega
          obtain ⟨q15, hq15⟩ : ∃ q, k - 15 = q := ⟨_, rfl⟩
          obtain ⟨q2, hq2⟩ : ∃ q, k - 2 = q := ⟨_, rfl⟩
          obtain ⟨q16, hq16⟩ : ∃ q, k - 16 = q := ⟨_, rfl⟩
          obtain ⟨q7, hq7⟩ : ∃ q, k - 7 = q := ⟨_, rfl⟩
          have i15 : (k : Int) - 15 = (q15 : Int) := by omega
          have i2 : (k : Int) - 2 = (q2 : Int) := by omega
          have i16 : (k : Int) - 16 = (q16 : Int) := by omega
          have i7 : (k : Int) - 7 = (q7 : Int) := by omega
          have l15 : (q15 : Int) < 64 := by omega
          have l2 : (q2 : Int) < 64 := by omega
          have l16 : (q16 : Int) < 64 := by omega
          have l7 : (q7 : Int) < 64 := by omega
          have v15 : IntKind.i64.wrap (q15 : Int) = (q15 : Int) := by rw [IntKind.wrap_i64]; omega
          have v2 : IntKind.i64.wrap (q2 : Int) = (q2 : Int) := by rw [IntKind.wrap_i64]; omega
          have v16 : IntKind.i64.wrap (q16 : Int) = (q16 : Int) := by rw [IntKind.wrap_i64]; omega
          have v7 : IntKind.i64.wrap (q7 : Int) = (q7 : Int) := by rw [IntKind.wrap_i64]; omega
          have HV := Lib.hid (show wv m k = wz m k q16 + sg0 (wz m k q15) + wz m k q7 + sg1 (wz m k q2) from by
            unfold wz; rw [if_pos (by omega), if_pos (by omega), if_pos (by omega), if_pos (by omega), wv_high m hk0, hq15, hq2, hq16, hq7])
          have c15 := HR.out.drew.cell (show q15 < 64 by omega)
          have c2 := HR.out.drew.cell (show q2 < 64 by omega)
          have L16 := Lib.hid (show q16 < 64 from by omega)
          have L7 := Lib.hid (show q7 < 64 from by omega)
          obtain ⟨X15, hX15⟩ : ∃ X, wz m k q15 = X := ⟨_, rfl⟩
          obtain ⟨X2, hX2⟩ : ∃ X, wz m k q2 = X := ⟨_, rfl⟩
          obtain ⟨X16, hX16⟩ : ∃ X, wz m k q16 = X := ⟨_, rfl⟩
          obtain ⟨X7, hX7⟩ : ∃ X, wz m k q7 = X := ⟨_, rfl⟩
          rw [hX15, hX2, hX16, hX7] at HV
          rw [hX15] at c15
          rw [hX2] at c2
          have HX16 := Lib.hid hX16
          have HX7 := Lib.hid hX7
          clear hX15 hX2 hX16 hX7 hq15 hq2 hq16 hq7
          obtain ⟨wd, hwd⟩ : ∃ wd, wr.drew = wd := ⟨_, rfl⟩
          have HRD := Lib.hid (show RowW wd H 64 216 (wz m k) from by rw [← hwd]; exact HR.out.drew)
          have HBD := Lib.hid (show Below H w wd from by rw [← hwd]; exact HB.out.drew)
          rw [hwd] at c15 c2
          go_wp2
          refine wp_region_K 12 (Eq wd) (by kernel_rfl) ?_
          intro hD
          rw [hwd]
          refine rP 0 40 11 rfl hD rfl ?_; clear hD; intro hD; simp only [Act.put, sqA, sqB, sqC]
          refine rP 1 41 10 rfl hD rfl ?_; clear hD; intro hD; simp only [Act.put, sqA, sqB, sqC]
          refine rP 2 42 9 rfl hD rfl ?_; clear hD; intro hD; simp only [Act.put, sqA, sqB, sqC]
          refine rP 3 43 8 rfl hD rfl ?_; clear hD; intro hD; simp only [Act.put, sqA, sqB, sqC]
          refine rT 4 44 7 rfl hD rfl (by intro w' hS'; have e0 := (hS' ▸ c15); have e1 := (hS' ▸ c2); go_simp; with_reducible rfl) ?_; clear hD; intro hD; simp only [Act.put, sqA, sqB, sqC]
          refine rP 5 45 6 rfl hD rfl ?_; clear hD; intro hD; simp only [Act.put, sqA, sqB, sqC]
          refine rP 6 46 5 rfl hD rfl ?_; clear hD; intro hD; simp only [Act.put, sqA, sqB, sqC]
          refine rP 7 47 4 rfl hD rfl ?_; clear hD; intro hD; simp only [Act.put, sqA, sqB, sqC]
          refine rP 8 48 3 rfl hD rfl ?_; clear hD; intro hD; simp only [Act.put, sqA, sqB, sqC]
          refine rT 9 49 2 rfl hD rfl (by intro w' hS'; have e0 := (hS' ▸ c15); have e1 := (hS' ▸ c2); go_simp; with_reducible rfl) ?_; clear hD; intro hD; simp only [Act.put, sqA, sqB, sqC]
          refine rO 10 1 rfl hD ?_; clear hD; intro K10 hK10
          go_wp2
          refine hK10 _ _ (by rfl) ?_; clear hK10; intro hS_12_10 hD
          refine rO 11 0 rfl hD ?_; clear hD; intro K11 hK11
          go_wp2
          refine hK11 _ _ (by rfl) ?_; clear hK11; intro hS_12_11 hD
          refine wpAnyK_done (by kernel_rfl) ?_ 0
          clear hD
          clear c15 c2 hwd
          go_wp2_with fail
          refine (r05_right X15 7 (by decide) (by decide) _).mono ?_
          rintro e' w1 ⟨rfl, hb1⟩
          go_wp2_with fail
          refine (r05_right X15 18 (by decide) (by decide) _).mono ?_
          rintro e' w2 ⟨rfl, hb2⟩
          go_wp2_with fail
          refine (r05_right X2 17 (by decide) (by decide) _).mono ?_
          rintro e' w3 ⟨rfl, hb3⟩
          go_wp2_with fail
          refine (r05_right X2 19 (by decide) (by decide) _).mono ?_
          rintro e' w4 ⟨rfl, hb4⟩
          have HB4 := Lib.hid (show Below wd.heap.size wd w4 from ((hb1.trans (hb2.mono hb1.size)).trans (hb3.mono (by have := hb1.size; have := hb2.size; omega))).trans (hb4.mono (by have := hb1.size; have := hb2.size; have := hb3.size; omega)))
          clear hb1 hb2 hb3 hb4
          have HR4 := Lib.hid (HRD.out.kept HB4.out HRD.out.lt)
          have HBB := Lib.hid (HBD.out.trans (HB4.out.mono (by have := HRD.out.lt; omega)))
          have c16 := HR4.out.drew.cell L16.out
          have c7 := HR4.out.drew.cell L7.out
          have hf := HR4.out.drew.free k
          have hcw := HR4.out.drew.cell (show k < 64 by omega)
          rw [HX16.out] at c16
          rw [HX7.out] at c7
          obtain ⟨we, hwe⟩ : ∃ we, w4.drew = we := ⟨_, rfl⟩
          rw [hwe] at c16 c7 hf hcw
          go_wp2
          refine wp_region_K 18 (Eq we) (by kernel_rfl) ?_
          intro hD
          rw [hwe]
          refine wpAnyK_pureD (i := 0) (d := some 66) (v := ?v15_0b3) (fuel := 18) rfl (by kernel_rfl) (by kernel_rfl) (fun _ _ _ h => h) hD rfl (.inl ⟨by kernel_rfl, ?y15_0b3⟩) ?n15_0b3
          case y15_0b3 => intro w' _; go_simp; with_reducible rfl
          clear hD; intro hD
          simp only [Act.put, sqA, sqB, sqC]
          refine wpAnyK_pureD (i := 1) (d := some 67) (v := ?v15_1b3) (fuel := 17) rfl (by kernel_rfl) (by kernel_rfl) (fun _ _ _ h => h) hD rfl (.inl ⟨by kernel_rfl, ?y15_1b3⟩) ?n15_1b3
          case y15_1b3 => intro w' _; go_simp; with_reducible rfl
          clear hD; intro hD
          simp only [Act.put, sqA, sqB, sqC]
          refine wpAnyK_pureD (i := 2) (d := some 68) (v := ?v15_2b3) (fuel := 16) rfl (by kernel_rfl) (by kernel_rfl) (fun _ _ _ h => h) hD rfl (.inl ⟨by kernel_rfl, ?y15_2b3⟩) ?n15_2b3
          case y15_2b3 => intro w' _; go_simp; with_reducible rfl
          clear hD; intro hD
          simp only [Act.put, sqA, sqB, sqC]
          refine wpAnyK_pureD (i := 3) (d := some 69) (v := ?v15_3b3) (fuel := 15) rfl (by kernel_rfl) (by kernel_rfl) (fun _ _ _ h => h) hD rfl (.inl ⟨by kernel_rfl, ?y15_3b3⟩) ?n15_3b3
          case y15_3b3 => intro w' _; go_simp; with_reducible rfl
          clear hD; intro hD
          simp only [Act.put, sqA, sqB, sqC]
          refine wpAnyK_pureD (i := 4) (d := some 70) (v := ?v15_4b3) (fuel := 14) rfl (by kernel_rfl) (by kernel_rfl) (fun _ _ _ h => h) hD rfl (.inl ⟨by kernel_rfl, ?y15_4b3⟩) ?n15_4b3
          case y15_4b3 => intro w' _; go_simp; with_reducible rfl
          clear hD; intro hD
          simp only [Act.put, sqA, sqB, sqC]
          refine wpAnyK_pureD (i := 5) (d := some 71) (v := ?v15_5b3) (fuel := 13) rfl (by kernel_rfl) (by kernel_rfl) (fun _ _ _ h => h) hD rfl (.inl ⟨by kernel_rfl, ?y15_5b3⟩) ?n15_5b3
          case y15_5b3 => intro w' _; go_simp; with_reducible rfl
          clear hD; intro hD
          simp only [Act.put, sqA, sqB, sqC]
          refine wpAnyK_takeD (i := 6) (d := some 72) (v := ?v15_6b3) (fuel := 12) rfl (by kernel_rfl) (by kernel_rfl) (by kernel_rfl) (fun _ _ _ h => h) hD rfl (.inl ⟨by kernel_rfl, ?y15_6b3⟩) ?n15_6b3
          case y15_6b3 => intro w' hS'; have e0 := (hS' ▸ c16); have e1 := (hS' ▸ c7); go_simp; with_reducible rfl
          clear hD; intro hD
          simp only [Act.put, sqA, sqB, sqC]
          refine wpAnyK_pureD (i := 7) (d := some 73) (v := ?v15_7b3) (fuel := 11) rfl (by kernel_rfl) (by kernel_rfl) (fun _ _ _ h => h) hD rfl (.inl ⟨by kernel_rfl, ?y15_7b3⟩) ?n15_7b3
          case y15_7b3 => intro w' _; go_simp; with_reducible rfl
          clear hD; intro hD
          simp only [Act.put, sqA, sqB, sqC]
          refine wpAnyK_pureD (i := 8) (d := some 74) (v := ?v15_8b3) (fuel := 10) rfl (by kernel_rfl) (by kernel_rfl) (fun _ _ _ h => h) hD rfl (.inl ⟨by kernel_rfl, ?y15_8b3⟩) ?n15_8b3
          case y15_8b3 => intro w' _; go_simp; with_reducible rfl
          clear hD; intro hD
          simp only [Act.put, sqA, sqB, sqC]
          refine wpAnyK_pureD (i := 9) (d := some 75) (v := ?v15_9b3) (fuel := 9) rfl (by kernel_rfl) (by kernel_rfl) (fun _ _ _ h => h) hD rfl (.inl ⟨by kernel_rfl, ?y15_9b3⟩) ?n15_9b3
          case y15_9b3 => intro w' _; go_simp; with_reducible rfl
          clear hD; intro hD
          simp only [Act.put, sqA, sqB, sqC]
          refine wpAnyK_pureD (i := 10) (d := some 76) (v := ?v15_10b3) (fuel := 8) rfl (by kernel_rfl) (by kernel_rfl) (fun _ _ _ h => h) hD rfl (.inl ⟨by kernel_rfl, ?y15_10b3⟩) ?n15_10b3
          case y15_10b3 => intro w' _; go_simp; with_reducible rfl
          clear hD; intro hD
          simp only [Act.put, sqA, sqB, sqC]
          refine wpAnyK_pureD (i := 11) (d := some 77) (v := ?v15_11b3) (fuel := 7) rfl (by kernel_rfl) (by kernel_rfl) (fun _ _ _ h => h) hD rfl (.inl ⟨by kernel_rfl, ?y15_11b3⟩) ?n15_11b3
          case y15_11b3 => intro w' _; go_simp; with_reducible rfl
          clear hD; intro hD
          simp only [Act.put, sqA, sqB, sqC]
          refine wpAnyK_pureD (i := 12) (d := some 78) (v := ?v15_12b3) (fuel := 6) rfl (by kernel_rfl) (by kernel_rfl) (fun _ _ _ h => h) hD rfl (.inl ⟨by kernel_rfl, ?y15_12b3⟩) ?n15_12b3
          case y15_12b3 => intro w' _; go_simp; with_reducible rfl
          clear hD; intro hD
          simp only [Act.put, sqA, sqB, sqC]
          refine wpAnyK_takeD (i := 13) (d := some 79) (v := ?v15_13b3) (fuel := 5) rfl (by kernel_rfl) (by kernel_rfl) (by kernel_rfl) (fun _ _ _ h => h) hD rfl (.inl ⟨by kernel_rfl, ?y15_13b3⟩) ?n15_13b3
          case y15_13b3 => intro w' hS'; have e0 := (hS' ▸ c16); have e1 := (hS' ▸ c7); go_simp; with_reducible rfl
          clear hD; intro hD
          simp only [Act.put, sqA, sqB, sqC]
          refine wpAnyK_pureD (i := 14) (d := some 80) (v := ?v15_14b3) (fuel := 4) rfl (by kernel_rfl) (by kernel_rfl) (fun _ _ _ h => h) hD rfl (.inl ⟨by kernel_rfl, ?y15_14b3⟩) ?n15_14b3
          case y15_14b3 => intro w' _; go_simp; with_reducible rfl
          clear hD; intro hD
          simp only [Act.put, sqA, sqB, sqC]
          refine wpAnyK_pureD (i := 15) (d := some 81) (v := ?v15_15b3) (fuel := 3) rfl (by kernel_rfl) (by kernel_rfl) (fun _ _ _ h => h) hD rfl (.inl ⟨by kernel_rfl, ?y15_15b3⟩) ?n15_15b3
          case y15_15b3 => intro w' _; go_simp; with_reducible rfl
          clear hD; intro hD
          simp only [Act.put, sqA, sqB, sqC]
          refine wpAnyK_pureD (i := 16) (d := some 82) (v := ?v15_16b3) (fuel := 2) rfl (by kernel_rfl) (by kernel_rfl) (fun _ _ _ h => h) hD rfl (.inl ⟨by kernel_rfl, ?y15_16b3⟩) ?n15_16b3
          case y15_16b3 => intro w' _; go_simp; with_reducible rfl
          clear hD; intro hD
          simp only [Act.put, sqA, sqB, sqC]
          refine wpAnyK_pureD (i := 17) (d := some 83) (v := ?v15_17b3) (fuel := 1) rfl (by kernel_rfl) (by kernel_rfl) (fun _ _ _ h => h) hD rfl (.inl ⟨by kernel_rfl, ?y15_17b3⟩) ?n15_17b3
          case y15_17b3 => intro w' _; go_simp; with_reducible rfl
          clear hD; intro hD
          simp only [Act.put, sqA, sqB, sqC]
          refine wpAnyK_oneT (i := 18) (fuel := 0) (by kernel_rfl) rfl hD (by kernel_rfl) ?_; clear hD; intro K18 hK18
          go_wp2
          refine hK18 _ _ ?_; clear hK18; intro hD
          refine wpAnyK_done (by kernel_rfl) ?_ 0
          clear hD
          clear i15 i2 i16 i7 l15 l2 l16 l7 v15 v2 v16 v7 c16 c7 hf hcw
          rw [sched_val2, ← HV.out]
          obtain ⟨V, hV⟩ : ∃ V, wv m k = V := ⟨_, rfl⟩
          rw [hV]
          have HVV := Lib.hid hV
          clear hV HV
          go_wp2
          go_roundw
          case rel =>
            refine ⟨k + 1, by omega, by omega, by go_num, ?_, ?_⟩
            · rw [← hwe]
              refine (HR4.out.drew.set k V).congr fun i hi => ?_
              unfold wz
              by_cases e : i = k
              · rw [if_pos e, if_pos (by omega), e, HVV.out]
              · rw [if_neg e]
                by_cases h : i < k
                · rw [if_pos h, if_pos (by omega)]
                · rw [if_neg h, if_neg (by omega)]
            · rw [← hwe]; exact HBB.out.drew.setCell (Nat.le_refl _) _
          case measure => simp [RowKit.intOf]; omega
        · have HK := Lib.hid (show k = 64 from by omega)
          have hge : ¬ ((k : Int) < 64) := by omega
          have HR3 := Lib.hid (show RowW wr H 64 216 (wv m) from HR.out.congr fun i hi => by unfold wz; rw [if_pos (by have := HK.out; omega)])
          clear hk0 hk hlt HK
          go_wp2
          go_ret
          exact ⟨rfl, HR3.out, HB.out⟩
end Go.Proofs.YtndmjfkmnjejkaaGreatDoor

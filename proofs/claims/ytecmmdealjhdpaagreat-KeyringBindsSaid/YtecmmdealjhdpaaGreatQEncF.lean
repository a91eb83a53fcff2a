/- Walks: the bytes of a length. -/
import Derived.Test.YtecmmdealjhdpaaGreatQEncC
import Derived.Test.YtecmmdealjhdpaaGreatQGst
set_option linter.unusedVariables false
set_option linter.unusedSimpArgs false
namespace Go.Proofs.YtecmmdealjhdpaaGreat
open Go.RowKit
theorem or128 (c : Nat) (h : c < 256) : bits BinOp.or IntKind.u8 (c : Int) 128 = ((c % 128 + 128 : Nat) : Int) := by
  have : ∀ c : Fin 256, bits BinOp.or IntKind.u8 ((c.1 : Nat) : Int) 128 = ((c.1 % 128 + 128 : Nat) : Int) := by decide +kernel
  exact this ⟨c, h⟩
theorem or128' (m : Nat) : bits BinOp.or IntKind.u8 ((m : Int) % 256) 128 = ((m % 128 + 128 : Nat) : Int) := by
  rw [show ((m : Int) % 256) = ((m % 256 : Nat) : Int) from by omega, or128 _ (by omega)]
  omega
theorem toNat_small {m : Nat} (h : m < 256) : (UInt8.ofNat m).toNat = m := by
  rw [UInt8.toNat_ofNat']; omega
theorem bytesAt_alloc (w : World) (cs : Array Value) (T : TypeId) (bs : List UInt8) (len cap : Nat) (hl : bs.length = len) (hc : len ≤ cap) (hm : cap ≤ 9223372036854775807)
    (h : ∀ k, k < len → cs[k]? = some (.int .u8 (byteI bs k))) : BytesAt (w.alloc (.cells cs T)) (some ⟨w.heap.size, 0, none⟩) len cap bs :=
  ⟨hl, hc, hm, fun _ => ⟨_, _, rfl, fun k hk => by rw [Nat.zero_add, World.cell?_alloc_at (hn := rfl)]; exact h k hk⟩⟩
theorem lenB_0 (n : Nat) (h : n < 128) : lenB n = [UInt8.ofNat (n)] := by
  unfold lenB
  rw [lenF, if_pos (by omega)]
theorem lenB_at0 (w : World) (n : Nat) (h : n < 128) (T : TypeId) : BytesAt (w.alloc (.cells #[.int .u8 ((n : Int)), .int .u8 0, .int .u8 0, .int .u8 0, .int .u8 0, .int .u8 0, .int .u8 0, .int .u8 0, .int .u8 0, .int .u8 0] T)) (some ⟨w.heap.size, 0, none⟩) 1 10 (lenB n) := by
  rw [lenB_0 n h]
  refine bytesAt_alloc w _ T _ _ _ rfl (by omega) (by omega) fun k hk => ?_
  match k, hk with
  | 0, _ => exact congrArg (fun x => some (Value.int .u8 x)) (show ((n : Nat) : Int) = _ from congrArg Int.ofNat (toNat_small (by omega)).symm)
theorem lenB_1 (n : Nat) (hl : 128 ≤ n) (h : n < 16384) : lenB n = [UInt8.ofNat (n % 128 + 128), UInt8.ofNat (n / 128)] := by
  unfold lenB
  rw [lenF, if_neg (by omega)]
  rw [lenF, if_pos (by omega)]
theorem lenB_at1 (w : World) (n : Nat) (hl : 128 ≤ n) (h : n < 16384) (T : TypeId) : BytesAt (w.alloc (.cells #[.int .u8 (bits BinOp.or IntKind.u8 ((n : Int) % 256) 128), .int .u8 ((n : Int) / 128), .int .u8 0, .int .u8 0, .int .u8 0, .int .u8 0, .int .u8 0, .int .u8 0, .int .u8 0, .int .u8 0] T)) (some ⟨w.heap.size, 0, none⟩) 2 10 (lenB n) := by
  rw [lenB_1 n hl h]
  refine bytesAt_alloc w _ T _ _ _ rfl (by omega) (by omega) fun k hk => ?_
  match k, hk with
  | 0, _ => exact congrArg (fun x => some (Value.int .u8 x)) ((or128' (n)).trans (congrArg Int.ofNat (toNat_small (by omega)).symm))
  | 1, _ => exact congrArg (fun x => some (Value.int .u8 x)) (show ((n / 128 : Nat) : Int) = _ from congrArg Int.ofNat (toNat_small (by omega)).symm)
theorem lenB_2 (n : Nat) (hl : 16384 ≤ n) (h : n < 2097152) : lenB n = [UInt8.ofNat (n % 128 + 128), UInt8.ofNat (n / 128 % 128 + 128), UInt8.ofNat (n / 128 / 128)] := by
  unfold lenB
  rw [lenF, if_neg (by omega)]
  rw [lenF, if_neg (by omega)]
  rw [lenF, if_pos (by omega)]
theorem lenB_at2 (w : World) (n : Nat) (hl : 16384 ≤ n) (h : n < 2097152) (T : TypeId) : BytesAt (w.alloc (.cells #[.int .u8 (bits BinOp.or IntKind.u8 ((n : Int) % 256) 128), .int .u8 (bits BinOp.or IntKind.u8 ((n : Int) / 128 % 256) 128), .int .u8 ((n : Int) / 128 / 128), .int .u8 0, .int .u8 0, .int .u8 0, .int .u8 0, .int .u8 0, .int .u8 0, .int .u8 0] T)) (some ⟨w.heap.size, 0, none⟩) 3 10 (lenB n) := by
  rw [lenB_2 n hl h]
  refine bytesAt_alloc w _ T _ _ _ rfl (by omega) (by omega) fun k hk => ?_
  match k, hk with
  | 0, _ => exact congrArg (fun x => some (Value.int .u8 x)) ((or128' (n)).trans (congrArg Int.ofNat (toNat_small (by omega)).symm))
  | 1, _ => exact congrArg (fun x => some (Value.int .u8 x)) ((or128' (n / 128)).trans (congrArg Int.ofNat (toNat_small (by omega)).symm))
  | 2, _ => exact congrArg (fun x => some (Value.int .u8 x)) (show ((n / 128 / 128 : Nat) : Int) = _ from congrArg Int.ofNat (toNat_small (by omega)).symm)
theorem lenB_3 (n : Nat) (hl : 2097152 ≤ n) (h : n < 268435456) : lenB n = [UInt8.ofNat (n % 128 + 128), UInt8.ofNat (n / 128 % 128 + 128), UInt8.ofNat (n / 128 / 128 % 128 + 128), UInt8.ofNat (n / 128 / 128 / 128)] := by
  unfold lenB
  rw [lenF, if_neg (by omega)]
  rw [lenF, if_neg (by omega)]
  rw [lenF, if_neg (by omega)]
  rw [lenF, if_pos (by omega)]
theorem lenB_at3 (w : World) (n : Nat) (hl : 2097152 ≤ n) (h : n < 268435456) (T : TypeId) : BytesAt (w.alloc (.cells #[.int .u8 (bits BinOp.or IntKind.u8 ((n : Int) % 256) 128), .int .u8 (bits BinOp.or IntKind.u8 ((n : Int) / 128 % 256) 128), .int .u8 (bits BinOp.or IntKind.u8 ((n : Int) / 128 / 128 % 256) 128), .int .u8 ((n : Int) / 128 / 128 / 128), .int .u8 0, .int .u8 0, .int .u8 0, .int .u8 0, .int .u8 0, .int .u8 0] T)) (some ⟨w.heap.size, 0, none⟩) 4 10 (lenB n) := by
  rw [lenB_3 n hl h]
  refine bytesAt_alloc w _ T _ _ _ rfl (by omega) (by omega) fun k hk => ?_
  match k, hk with
  | 0, _ => exact congrArg (fun x => some (Value.int .u8 x)) ((or128' (n)).trans (congrArg Int.ofNat (toNat_small (by omega)).symm))
  | 1, _ => exact congrArg (fun x => some (Value.int .u8 x)) ((or128' (n / 128)).trans (congrArg Int.ofNat (toNat_small (by omega)).symm))
  | 2, _ => exact congrArg (fun x => some (Value.int .u8 x)) ((or128' (n / 128 / 128)).trans (congrArg Int.ofNat (toNat_small (by omega)).symm))
  | 3, _ => exact congrArg (fun x => some (Value.int .u8 x)) (show ((n / 128 / 128 / 128 : Nat) : Int) = _ from congrArg Int.ofNat (toNat_small (by omega)).symm)
theorem lenB_4 (n : Nat) (hl : 268435456 ≤ n) (h : n < 34359738368) : lenB n = [UInt8.ofNat (n % 128 + 128), UInt8.ofNat (n / 128 % 128 + 128), UInt8.ofNat (n / 128 / 128 % 128 + 128), UInt8.ofNat (n / 128 / 128 / 128 % 128 + 128), UInt8.ofNat (n / 128 / 128 / 128 / 128)] := by
  unfold lenB
  rw [lenF, if_neg (by omega)]
  rw [lenF, if_neg (by omega)]
  rw [lenF, if_neg (by omega)]
  rw [lenF, if_neg (by omega)]
  rw [lenF, if_pos (by omega)]
theorem lenB_at4 (w : World) (n : Nat) (hl : 268435456 ≤ n) (h : n < 34359738368) (T : TypeId) : BytesAt (w.alloc (.cells #[.int .u8 (bits BinOp.or IntKind.u8 ((n : Int) % 256) 128), .int .u8 (bits BinOp.or IntKind.u8 ((n : Int) / 128 % 256) 128), .int .u8 (bits BinOp.or IntKind.u8 ((n : Int) / 128 / 128 % 256) 128), .int .u8 (bits BinOp.or IntKind.u8 ((n : Int) / 128 / 128 / 128 % 256) 128), .int .u8 ((n : Int) / 128 / 128 / 128 / 128), .int .u8 0, .int .u8 0, .int .u8 0, .int .u8 0, .int .u8 0] T)) (some ⟨w.heap.size, 0, none⟩) 5 10 (lenB n) := by
  rw [lenB_4 n hl h]
  refine bytesAt_alloc w _ T _ _ _ rfl (by omega) (by omega) fun k hk => ?_
  match k, hk with
  | 0, _ => exact congrArg (fun x => some (Value.int .u8 x)) ((or128' (n)).trans (congrArg Int.ofNat (toNat_small (by omega)).symm))
  | 1, _ => exact congrArg (fun x => some (Value.int .u8 x)) ((or128' (n / 128)).trans (congrArg Int.ofNat (toNat_small (by omega)).symm))
  | 2, _ => exact congrArg (fun x => some (Value.int .u8 x)) ((or128' (n / 128 / 128)).trans (congrArg Int.ofNat (toNat_small (by omega)).symm))
  | 3, _ => exact congrArg (fun x => some (Value.int .u8 x)) ((or128' (n / 128 / 128 / 128)).trans (congrArg Int.ofNat (toNat_small (by omega)).symm))
  | 4, _ => exact congrArg (fun x => some (Value.int .u8 x)) (show ((n / 128 / 128 / 128 / 128 : Nat) : Int) = _ from congrArg Int.ofNat (toNat_small (by omega)).symm)
set_option maxRecDepth 100000 in
set_option maxHeartbeats 2000000 in
theorem enc_length (n : Nat) (w : World) (h : n < 34359738368) : Calls Tryz.prog 46 #[.int .i64 n] w (Ret (.string (bstr (lenB n))) w) := by
  by_cases h0 : n < 128
  · have hconv := BytesAt.conv (lenB_at0 w n h0 118) 94 9 5 Tryz.underlying94 Tryz.underlying5 Tryz.underlying9
    go_enter Tryz.func46, Tryz.ntmps46
    go_wp2
    refine wp_loop_rounds 1 ?_
    iterate 1 (rw [rounds_succ]; go_wp2_with fail)
    go_ret
    exact ⟨rfl, (Below.refl _ _).alloc (Nat.le_refl _) _⟩
  · skip
    by_cases h1 : n < 16384
    · have hconv := BytesAt.conv (lenB_at1 w n (by omega) h1 118) 94 9 5 Tryz.underlying94 Tryz.underlying5 Tryz.underlying9
      go_enter Tryz.func46, Tryz.ntmps46
      go_wp2
      refine wp_loop_rounds 2 ?_
      iterate 2 (rw [rounds_succ]; go_wp2_with fail)
      go_ret
      exact ⟨rfl, (Below.refl _ _).alloc (Nat.le_refl _) _⟩
    · skip
      by_cases h2 : n < 2097152
      · have hconv := BytesAt.conv (lenB_at2 w n (by omega) h2 118) 94 9 5 Tryz.underlying94 Tryz.underlying5 Tryz.underlying9
        go_enter Tryz.func46, Tryz.ntmps46
        go_wp2
        refine wp_loop_rounds 3 ?_
        iterate 3 (rw [rounds_succ]; go_wp2_with fail)
        go_ret
        exact ⟨rfl, (Below.refl _ _).alloc (Nat.le_refl _) _⟩
      · skip
        by_cases h3 : n < 268435456
        · have hconv := BytesAt.conv (lenB_at3 w n (by omega) h3 118) 94 9 5 Tryz.underlying94 Tryz.underlying5 Tryz.underlying9
          go_enter Tryz.func46, Tryz.ntmps46
          go_wp2
          refine wp_loop_rounds 4 ?_
          iterate 4 (rw [rounds_succ]; go_wp2_with fail)
          go_ret
          exact ⟨rfl, (Below.refl _ _).alloc (Nat.le_refl _) _⟩
        · skip
          have hconv := BytesAt.conv (lenB_at4 w n (by omega) h 118) 94 9 5 Tryz.underlying94 Tryz.underlying5 Tryz.underlying9
          go_enter Tryz.func46, Tryz.ntmps46
          go_wp2
          refine wp_loop_rounds 5 ?_
          iterate 5 (rw [rounds_succ]; go_wp2_with fail)
          go_ret
          exact ⟨rfl, (Below.refl _ _).alloc (Nat.le_refl _) _⟩
end Go.Proofs.YtecmmdealjhdpaaGreat
/- Walks: ref08.Length, ref08.List. -/
set_option linter.unusedVariables false
set_option linter.unusedSimpArgs false
namespace Go.Proofs.YtecmmdealjhdpaaGreat
open Go.RowKit
theorem bstr_append (l m : List UInt8) : bstr l ++ bstr m = bstr (l ++ m) := by
  unfold bstr
  rw [ByteArray.mk_append_mk]
end Go.Proofs.YtecmmdealjhdpaaGreat
/- Walks: encoding.write. -/
set_option linter.unusedVariables false
set_option linter.unusedSimpArgs false
namespace Go.Proofs.YtecmmdealjhdpaaGreat
open Go.RowKit
theorem bytes_take_step {l : List It} {k : Nat} {y : It} (h : l[k]? = some y) : Its.bytes (l.take (k + 1)) = Its.bytes (l.take k) ++ y.bytes := by
  rw [take_snoc h, Its.bytes_append]
  simp [Its.bytes]
theorem bytes_take_le (l : List It) (k : Nat) : (Its.bytes (l.take k)).length ≤ Its.weight l :=
  Nat.le_trans (Its.bytes_le _) (Its.weight_take_le l k)
theorem keep_new {B : Nat} {a W : World} {cs : Array Value} {T : TypeId} (h : KeepB B a (W.alloc (.cells cs T))) : (W.alloc (.cells cs T)).cell? ⟨W.heap.size, 0, none⟩ = cs[0]? := World.cell?_alloc_at (w := W) cs T W.heap.size 0 rfl
theorem keep_bld {B b : Nat} {bs : List Value} {a W : World} {C : Obj} (h : KeepB B a (W.alloc C)) (hi : Lib.IsBuilder 96 5 B b bs W) : Lib.IsBuilder 96 5 B b bs (W.alloc C) := bld_kept hi ((Below.refl _ _).alloc (Nat.le_refl _) _)
theorem conv_cell {w : World} {g : Nat} {c : Int} {cb : UInt8} (h : w.cell? ⟨g, 0, none⟩ = some (.int .u8 c)) (hc : c = (cb.toNat : Int)) : (convert 94 9 (.slice (some ⟨g, 0, none⟩) 1 1)).run Tryz.prog w = .ok (.string (bstr [cb])) w := by
  refine BytesAt.conv (bs := [cb]) (len := 1) (cap := 1) ⟨rfl, Nat.le_refl _, by omega, fun _ => ⟨g, 0, rfl, fun k hk => ?_⟩⟩ _ _ 5 Tryz.underlying94 Tryz.underlying5 Tryz.underlying9
  match k, hk with
  | 0, _ => rw [h, hc]; rfl
set_option maxRecDepth 100000 in
set_option maxHeartbeats 4000000 in
theorem enc_write (N : Nat) : ∀ (x : It) (v : Value) (w : World) (ok : Nat → Prop), x.nodes ≤ N → x.weight ≤ 1000000000 → ItAt w ok v x → Calls Tryz.prog 37 #[v] w (Ret (.string (bstr x.bytes)) w) := by
  induction N with
  | zero => intro x v w ok h; have := x.nodes_pos; omega
  | succ N ih =>
    intro x v w ok hN hM ⟨A, len, cap, hv, hs⟩
    subst hv
    have IH := Lib.hid ih
    clear ih
    cases x with
    | mk q n t l =>
      simp only [It.kind, It.nat, It.text, It.list] at *
      simp only [It.nodes, It.weight] at hN hM
      have hlen := hs.1
      have hcap := hs.2.2.1
      have hlc := hs.2.1
      have hs0 := hs.bound
      have HS0 := Lib.hid hs0
      have HLEN := Lib.hid hlen
      have HN := Lib.hid hN
      have HM := Lib.hid hM
      have hM1 : n.size ≤ 1000000000 := by omega
      have hM2 : n.size + t.size ≤ 1000000000 := by omega
      clear hs hs0 hlen hN hM
      go_enter Tryz.func37, Tryz.ntmps37
      go_wp2_with fail
      have hib := Lib.fresh_isBuilder 96 5 (w.alloc (.cells #[.int .i64 q, .string n, .string t, .slice A len cap] 60))
      have hb0 : (w.alloc (.cells #[.int .i64 q, .string n, .string t, .slice A len cap] 60)).heap.size = w.heap.size + 1 := by simp
      rw [hb0] at hib
      have hbox : ((w.alloc (.cells #[.int .i64 q, .string n, .string t, .slice A len cap] 60)).alloc (.cells #[.pointer none, .slice none 0 0] 96)).heap[w.heap.size]? = some (.cells #[.int .i64 q, .string n, .string t, .slice A len cap] 60 (0, 0)) := by
        rw [Lib.alloc_old _ _ _ (by simp)]; exact heap_alloc_new _ _
      have hbl : Below w.heap.size w ((w.alloc (.cells #[.int .i64 q, .string n, .string t, .slice A len cap] 60)).alloc (.cells #[.pointer none, .slice none 0 0] 96)) := ((Below.refl _ _).alloc (Nat.le_refl _) _).alloc (by simp) _
      have hsz : w.heap.size + 1 ≤ ((w.alloc (.cells #[.int .i64 q, .string n, .string t, .slice A len cap] 60)).alloc (.cells #[.pointer none, .slice none 0 0] 96)).heap.size := by simp
      obtain ⟨W0, hW0⟩ : ∃ W0, (w.alloc (.cells #[.int .i64 q, .string n, .string t, .slice A len cap] 60)).alloc (.cells #[.pointer none, .slice none 0 0] 96) = W0 := ⟨_, rfl⟩
      rw [hW0] at hib hbox hbl hsz ⊢
      clear hW0 hb0
      have HBOX := Lib.hid hbox
      have HBL := Lib.hid hbl
      clear hbox hbl
      refine (bld_WriteString _ _ [] n _ hib (by simp; omega) hsz).mono ?_
      rintro e w1 ⟨rfl, hi1, hb1⟩
      rw [List.nil_append, Lib.strCells_eq] at hi1
      have hbox1 : w1.heap[w.heap.size]? = _ := (hb1.block _ (by omega)).trans HBOX.out
      obtain ⟨b0, b1, b2, b3⟩ := four_cells hbox1
      have HB1 := Lib.hid hb1
      have HI1 := Lib.hid hi1
      have hz1 : w.heap.size + 1 ≤ w1.heap.size := block_lt hbox1
      clear hb1 hi1 hib hbox1
      go_wp2_with fail
      refine (bld_WriteString _ _ _ t _ HI1.out (by rw [Lib.byteCells_length, data_len]; omega) hz1).mono ?_
      rintro e w2 ⟨rfl, hi2, hb2⟩
      rw [Lib.strCells_eq, ← Lib.byteCells_append] at hi2
      clear b0 b1 b2 b3
      have HBOX2 := Lib.hid ((hb2.block _ (by omega)).trans ((HB1.out.block _ (by omega)).trans HBOX.out))
      have HB2 := Lib.hid (HB1.out.trans hb2)
      have HI2 := Lib.hid hi2
      obtain ⟨b0, b1, b2, b3⟩ := four_cells HBOX2.out
      clear hb2 hi2
      obtain ⟨pre, hpre⟩ : ∃ pre, n.data.toList ++ t.data.toList = pre := ⟨_, rfl⟩
      rw [hpre] at HI2
      have hpl : pre.length = n.size + t.size := by rw [← hpre, List.length_append, data_len, data_len]
      have HPRE := Lib.hid hpre
      have HPL := Lib.hid hpl
      clear hpre hpl
      go_wp2
      clear b0 b1 b2 b3
      go_loopw [15] (fun i wr => ∃ k : Nat, k ≤ len ∧ i = .int .i64 k ∧ Lib.IsBuilder 96 5 (w.heap.size + 1) (w.heap.size + 1) (Lib.byteCells (pre ++ Its.bytes (l.take k))) wr ∧ Below (w.heap.size + 1) W0 wr) (fun i _ => len - (intOf i).toNat)
      case atStart => exact ⟨0, Nat.zero_le _, rfl, by simpa [Its.bytes] using HI2.out, HB2.out⟩
      case round =>
        obtain ⟨k, hk, rfl, hib, hB⟩ := hrel
        have hbox1 : wr.heap[w.heap.size]? = _ := (hB.block _ (by omega)).trans HBOX.out
        obtain ⟨b0, b1, b2, b3⟩ := four_cells hbox1
        have hz1 : w.heap.size + 1 ≤ wr.heap.size := block_lt hbox1
        have hs1 := HS0.out.keep (fun b hb _ => (hB.block b (by omega)).trans (HBL.out.block b hb.2))
        have HIB := Lib.hid hib
        have HB := Lib.hid hB
        clear hib hB hbox1
        by_cases hlt : k < len
        · obtain ⟨b, o, rfl⟩ := hs1.head (by omega)
          obtain ⟨y, hy⟩ : ∃ y, l[k]? = some y := ⟨_, List.getElem?_eq_getElem (by rw [HLEN.out]; exact hlt)⟩
          obtain ⟨A1, len1, cap1, c0, c1, c2, c3, hs2⟩ := (hs1.get? k hy).open
          have hyN : y.nodes ≤ N := by have := Its.mem_nodes (List.mem_of_getElem? hy); have := HN.out; omega
          have hyM : y.weight ≤ 1000000000 := by have := Its.mem_weight (List.mem_of_getElem? hy); have := HM.out; omega
          have HS2 := Lib.hid hs2
          have HY := Lib.hid hy
          clear hs1 hs2 hy
          go_wp2_with fail
          refine (IH.out y _ _ _ hyN hyM ⟨A1, len1, cap1, rfl, HS2.out.below ((Below.refl wr.heap.size wr).alloc (Nat.le_refl _) _) (Nat.le_refl _)⟩).mono ?_
          rintro e w3 ⟨rfl, hb3⟩
          have hb3' : Below wr.heap.size wr w3 := ((Below.refl wr.heap.size wr).alloc (Nat.le_refl _) _).trans (hb3.mono (by simp))
          have hz3 := hb3'.size
          have HB3 := Lib.hid hb3'
          clear hb3 hb3'
          go_wp2_with fail
          refine (bld_WriteString _ _ _ (bstr y.bytes) _ (bld_kept HIB.out HB3.out) (by
            rw [Lib.byteCells_length, bstr_size, List.length_append]
            have h1 := bytes_take_le l (k + 1)
            rw [bytes_take_step HY.out, List.length_append] at h1
            have h2 := HPL.out
            have h3 := HM.out
            omega) (by omega)).mono ?_
          rintro e w4 ⟨rfl, hi4, hb4⟩
          rw [Lib.strCells_eq, ← Lib.byteCells_append, bstr_data, List.append_assoc, ← bytes_take_step HY.out] at hi4
          have HI4 := Lib.hid hi4
          have HB4 := Lib.hid hb4
          clear hi4 hb4
          go_wp2
          go_roundw
          case rel => exact ⟨k + 1, by omega, by go_num, HI4.out, (HB.out.trans (HB3.out.mono (by omega))).trans HB4.out⟩
          case measure => simp [intOf]; omega
        · obtain rfl : k = len := by omega
          rw [List.take_of_length_le (by have := HLEN.out; omega)] at HIB
          obtain ⟨body, hbody⟩ : ∃ body, pre ++ Its.bytes l = body := ⟨_, rfl⟩
          rw [hbody] at HIB
          have hbl : body.length ≤ 1000000000 := by
            rw [← hbody, List.length_append]
            have h1 := Its.bytes_le l
            have h2 := HPL.out
            have h3 := HM.out
            omega
          have HBODY := Lib.hid hbody
          clear hs1 hbody
          go_wp2
          obtain ⟨wd, hwd⟩ : ∃ wd, wr.drew = wd := ⟨_, rfl⟩
          have d0 : wd.cell? ⟨w.heap.size, 0, none⟩ = some (.int .i64 q) := by rw [← hwd]; exact b0
          have HIBC := Lib.hid (show Lib.IsBuilder 96 5 (w.heap.size + 1) (w.heap.size + 1) (Lib.byteCells body) wd from by rw [← hwd]; exact bld_drew HIB.out)
          have HBD := Lib.hid (show Below w.heap.size w wd from by rw [← hwd]; exact ((HBL.out.trans (HB.out.mono (by omega))).drew))
          have hzd : w.heap.size + 1 ≤ wd.heap.size := by rw [← hwd]; exact hz1
          obtain ⟨cb, hcb⟩ : ∃ cb : UInt8, UInt8.ofNat (q % 256).toNat = cb := ⟨_, rfl⟩
          have hq : q % 256 = (cb.toNat : Int) := by rw [← hcb, toNat_small (by omega)]; omega
          have hlb := lenF_length 10 body.length
          have hadd1 : ∀ w, (Op.stringOp .add (bstr [cb]) (bstr (lenB body.length))).run Tryz.prog w = .ok (.string (bstr (cb :: lenB body.length))) w := fun w => by
            rw [run_string_add_sum w _ _ (by rw [bstr_size, bstr_size]; unfold lenB; simp; omega), bstr_append]; rfl
          have hadd2 : ∀ w, (Op.stringOp .add (bstr (cb :: lenB body.length)) (bstr body)).run Tryz.prog w = .ok (.string (bstr (cb :: (lenB body.length ++ body)))) w := fun w => by
            rw [run_string_add_sum w _ _ (by rw [bstr_size, bstr_size]; unfold lenB; simp; omega), bstr_append]; rfl
          have hfin := Lib.hid (show (It.mk q n t l).bytes = cb :: (lenB body.length ++ body) from by
            simp only [It.bytes]
            have e : n.data.toList ++ (t.data.toList ++ Its.bytes l) = body := by rw [← List.append_assoc, HPRE.out, HBODY.out]
            rw [e, hcb])
          have HQ := Lib.hid hq
          have HCB := Lib.hid hcb
          have HWD := Lib.hid hwd
          clear hq hcb hlb b0 b1 b2 b3
          refine wp_region_K 11 (KeepB (w.heap.size + 1) wd) (by kernel_rfl) ?_
          intro hD
          rw [hwd]
          refine wpAnyK_pure (i := 0) (v := ?v9_0b1) (fuel := 10) rfl (by kernel_rfl) (fun _ _ _ h => h) hD (KeepB.refl (w.heap.size + 1) wd) (.inl ⟨by kernel_rfl, ?y9_0b1⟩) ?n9_0b1
          case y9_0b1 => intro w' _; go_simp; with_reducible rfl
          clear hD; intro hD
          simp only [Act.put, sqA, sqB, sqC]
          refine wpAnyK_takeS (i := 1) (v := ?v9_1b1) (fuel := 9) rfl (by kernel_rfl) (by kernel_rfl) (fun _ _ _ h => h) hD (KeepB.refl (w.heap.size + 1) wd) (.inl ⟨by kernel_rfl, ?y9_1b1⟩) ?n9_1b1
          case y9_1b1 => intro w' hS'; have e0 := hS'.cells _ _ d0; go_simp; with_reducible rfl
          clear hD; intro hD
          simp only [Act.put, sqA, sqB, sqC]
          refine wpAnyK_pure (i := 2) (v := ?v9_2b1) (fuel := 8) rfl (by kernel_rfl) (fun _ _ _ h => h) hD (KeepB.refl (w.heap.size + 1) wd) (.inl ⟨by kernel_rfl, ?y9_2b1⟩) ?n9_2b1
          case y9_2b1 => intro w' _; go_simp; with_reducible rfl
          clear hD; intro hD
          simp only [Act.put, sqA, sqB, sqC]
          refine wpAnyK_two (i := 3) (i' := 5) (fuel := 7) (by kernel_rfl) rfl rfl hD ?_ ?_ 
          · unfold StepK
            clear hD; intro K3 hK3
            go_wp2
            refine hK3 _ _ (by exact KeepB.alloc (KeepB.refl (w.heap.size + 1) wd) (Nat.le_trans hzd ((KeepB.refl (w.heap.size + 1) wd)).below.size) _) ?_; clear hK3; intro hS_9_3 hD
            have hG := keep_new hS_9_3
            try (have HIBC := Lib.hid (keep_bld hS_9_3 HIBC.out))
            refine wpAnyK_two (i := 4) (i' := 5) (fuel := 6) (by kernel_rfl) rfl rfl hD ?_ ?_ 
            · unfold StepK
              clear hD; intro K4 hK4
              have hcv := conv_cell hG HQ.out
              go_wp2
              refine hK4 _ _ (by exact hS_9_3) ?_; clear hK4; intro hS_9_4_3 hD
              refine wpAnyK_one (i := 5) (fuel := 5) (by kernel_rfl) rfl hD ?_
              clear hD; intro K5 hK5
              go_wp2_with fail
              refine (Tryz.Builder_Len _ _ _ _ HIBC.out).mono ?_
              rintro e w5 ⟨rfl, hw5⟩
              subst w5
              rw [Lib.byteCells_length]
              go_wp2
              refine hK5 _ _ (by exact hS_9_4_3) ?_; clear hK5; intro hS_9_5_3_4 hD
              refine wpAnyK_one (i := 6) (fuel := 4) (by kernel_rfl) rfl hD ?_
              clear hD; intro K6 hK6
              go_wp2_with fail
              refine (enc_length body.length _ (by omega)).mono ?_
              rintro e w6 ⟨rfl, hb6⟩
              have HB6 := Lib.hid hb6
              clear hb6
              have HIBC := Lib.hid (bld_kept HIBC.out HB6.out)
              try (replace hG := cell_kept HB6.out (Nat.le_refl _) hG)
              go_wp2
              refine hK6 _ _ (by exact (hS_9_5_3_4).trans (KeepB.of HB6.out (Nat.le_refl _) (Nat.le_trans hzd (hS_9_5_3_4).below.size))) ?_; clear hK6; intro hS_9_6_3_4 hD
              refine wpAnyK_pure (i := 7) (v := ?v9_7_3_4b1) (fuel := 3) rfl (by kernel_rfl) (fun _ _ _ h => h) hD hS_9_6_3_4 (.inl ⟨by kernel_rfl, ?y9_7_3_4b1⟩) ?n9_7_3_4b1
              case y9_7_3_4b1 => intro w' _; go_simp; with_reducible rfl
              clear hD; intro hD
              simp only [Act.put, sqA, sqB, sqC]
              refine wpAnyK_one (i := 8) (fuel := 2) (by kernel_rfl) rfl hD ?_
              clear hD; intro K8 hK8
              go_wp2_with fail
              refine (bld_String _ _ _ _ HIBC.out (Nat.le_trans hzd (hS_9_6_3_4).below.size)).mono ?_
              rintro e w8 ⟨rfl, hb8⟩
              have HB8 := Lib.hid hb8
              clear hb8
              try (replace hG := HB8.out.cells _ _ hG)
              go_wp2
              refine hK8 _ _ (by exact (hS_9_6_3_4).trans HB8.out) ?_; clear hK8; intro hS_9_8_3_4 hD
              refine wpAnyK_pure (i := 9) (v := ?v9_9_3_4b1) (fuel := 1) rfl (by kernel_rfl) (fun _ _ _ h => h) hD hS_9_8_3_4 (.inl ⟨by kernel_rfl, ?y9_9_3_4b1⟩) ?n9_9_3_4b1
              case y9_9_3_4b1 => intro w' _; go_simp; with_reducible rfl
              clear hD; intro hD
              simp only [Act.put, sqA, sqB, sqC]
              refine wpAnyK_one (i := 10) (fuel := 0) (by kernel_rfl) rfl hD ?_
              clear hD; intro K10 hK10
              go_wp2
              refine hK10 _ _ (by exact hS_9_8_3_4) ?_; clear hK10; intro hS_9_10_3_4 hD
              refine wpAnyK_done (by kernel_rfl) ?_ 0
              go_wp2
              go_ret
              exact ⟨by rw [hfin.out]; rfl, HBD.out.trans ((hS_9_10_3_4).below.mono (by omega))⟩
            · unfold StepK
              clear hD; intro K5 hK5
              go_wp2_with fail
              refine (Tryz.Builder_Len _ _ _ _ HIBC.out).mono ?_
              rintro e w5 ⟨rfl, hw5⟩
              subst w5
              rw [Lib.byteCells_length]
              go_wp2
              refine hK5 _ _ (by exact hS_9_3) ?_; clear hK5; intro hS_9_5_3 hD
              refine wpAnyK_two (i := 4) (i' := 6) (fuel := 5) (by kernel_rfl) rfl rfl hD ?_ ?_ 
              · unfold StepK
                clear hD; intro K4 hK4
                have hcv := conv_cell hG HQ.out
                go_wp2
                refine hK4 _ _ (by exact hS_9_5_3) ?_; clear hK4; intro hS_9_4_3_5 hD
                refine wpAnyK_one (i := 6) (fuel := 4) (by kernel_rfl) rfl hD ?_
                clear hD; intro K6 hK6
                go_wp2_with fail
                refine (enc_length body.length _ (by omega)).mono ?_
                rintro e w6 ⟨rfl, hb6⟩
                have HB6 := Lib.hid hb6
                clear hb6
                have HIBC := Lib.hid (bld_kept HIBC.out HB6.out)
                try (replace hG := cell_kept HB6.out (Nat.le_refl _) hG)
                go_wp2
                refine hK6 _ _ (by exact (hS_9_4_3_5).trans (KeepB.of HB6.out (Nat.le_refl _) (Nat.le_trans hzd (hS_9_4_3_5).below.size))) ?_; clear hK6; intro hS_9_6_3_5_4 hD
                refine wpAnyK_pure (i := 7) (v := ?v9_7_3_5_4b1) (fuel := 3) rfl (by kernel_rfl) (fun _ _ _ h => h) hD hS_9_6_3_5_4 (.inl ⟨by kernel_rfl, ?y9_7_3_5_4b1⟩) ?n9_7_3_5_4b1
                case y9_7_3_5_4b1 => intro w' _; go_simp; with_reducible rfl
                clear hD; intro hD
                simp only [Act.put, sqA, sqB, sqC]
                refine wpAnyK_one (i := 8) (fuel := 2) (by kernel_rfl) rfl hD ?_
                clear hD; intro K8 hK8
                go_wp2_with fail
                refine (bld_String _ _ _ _ HIBC.out (Nat.le_trans hzd (hS_9_6_3_5_4).below.size)).mono ?_
                rintro e w8 ⟨rfl, hb8⟩
                have HB8 := Lib.hid hb8
                clear hb8
                try (replace hG := HB8.out.cells _ _ hG)
                go_wp2
                refine hK8 _ _ (by exact (hS_9_6_3_5_4).trans HB8.out) ?_; clear hK8; intro hS_9_8_3_5_4 hD
                refine wpAnyK_pure (i := 9) (v := ?v9_9_3_5_4b1) (fuel := 1) rfl (by kernel_rfl) (fun _ _ _ h => h) hD hS_9_8_3_5_4 (.inl ⟨by kernel_rfl, ?y9_9_3_5_4b1⟩) ?n9_9_3_5_4b1
                case y9_9_3_5_4b1 => intro w' _; go_simp; with_reducible rfl
                clear hD; intro hD
                simp only [Act.put, sqA, sqB, sqC]
                refine wpAnyK_one (i := 10) (fuel := 0) (by kernel_rfl) rfl hD ?_
                clear hD; intro K10 hK10
                go_wp2
                refine hK10 _ _ (by exact hS_9_8_3_5_4) ?_; clear hK10; intro hS_9_10_3_5_4 hD
                refine wpAnyK_done (by kernel_rfl) ?_ 0
                go_wp2
                go_ret
                exact ⟨by rw [hfin.out]; rfl, HBD.out.trans ((hS_9_10_3_5_4).below.mono (by omega))⟩
              · unfold StepK
                clear hD; intro K6 hK6
                go_wp2_with fail
                refine (enc_length body.length _ (by omega)).mono ?_
                rintro e w6 ⟨rfl, hb6⟩
                have HB6 := Lib.hid hb6
                clear hb6
                have HIBC := Lib.hid (bld_kept HIBC.out HB6.out)
                try (replace hG := cell_kept HB6.out (Nat.le_refl _) hG)
                go_wp2
                refine hK6 _ _ (by exact (hS_9_5_3).trans (KeepB.of HB6.out (Nat.le_refl _) (Nat.le_trans hzd (hS_9_5_3).below.size))) ?_; clear hK6; intro hS_9_6_3_5 hD
                refine wpAnyK_two (i := 4) (i' := 8) (fuel := 4) (by kernel_rfl) rfl rfl hD ?_ ?_ 
                · unfold StepK
                  clear hD; intro K4 hK4
                  have hcv := conv_cell hG HQ.out
                  go_wp2
                  refine hK4 _ _ (by exact hS_9_6_3_5) ?_; clear hK4; intro hS_9_4_3_5_6 hD
                  refine wpAnyK_pure (i := 7) (v := ?v9_7_3_5_6_4b1) (fuel := 3) rfl (by kernel_rfl) (fun _ _ _ h => h) hD hS_9_4_3_5_6 (.inl ⟨by kernel_rfl, ?y9_7_3_5_6_4b1⟩) ?n9_7_3_5_6_4b1
                  case y9_7_3_5_6_4b1 => intro w' _; go_simp; with_reducible rfl
                  clear hD; intro hD
                  simp only [Act.put, sqA, sqB, sqC]
                  refine wpAnyK_one (i := 8) (fuel := 2) (by kernel_rfl) rfl hD ?_
                  clear hD; intro K8 hK8
                  go_wp2_with fail
                  refine (bld_String _ _ _ _ HIBC.out (Nat.le_trans hzd (hS_9_4_3_5_6).below.size)).mono ?_
                  rintro e w8 ⟨rfl, hb8⟩
                  have HB8 := Lib.hid hb8
                  clear hb8
                  try (replace hG := HB8.out.cells _ _ hG)
                  go_wp2
                  refine hK8 _ _ (by exact (hS_9_4_3_5_6).trans HB8.out) ?_; clear hK8; intro hS_9_8_3_5_6_4 hD
                  refine wpAnyK_pure (i := 9) (v := ?v9_9_3_5_6_4b1) (fuel := 1) rfl (by kernel_rfl) (fun _ _ _ h => h) hD hS_9_8_3_5_6_4 (.inl ⟨by kernel_rfl, ?y9_9_3_5_6_4b1⟩) ?n9_9_3_5_6_4b1
                  case y9_9_3_5_6_4b1 => intro w' _; go_simp; with_reducible rfl
                  clear hD; intro hD
                  simp only [Act.put, sqA, sqB, sqC]
                  refine wpAnyK_one (i := 10) (fuel := 0) (by kernel_rfl) rfl hD ?_
                  clear hD; intro K10 hK10
                  go_wp2
                  refine hK10 _ _ (by exact hS_9_8_3_5_6_4) ?_; clear hK10; intro hS_9_10_3_5_6_4 hD
                  refine wpAnyK_done (by kernel_rfl) ?_ 0
                  go_wp2
                  go_ret
                  exact ⟨by rw [hfin.out]; rfl, HBD.out.trans ((hS_9_10_3_5_6_4).below.mono (by omega))⟩
                · unfold StepK
                  clear hD; intro K8 hK8
                  go_wp2_with fail
                  refine (bld_String _ _ _ _ HIBC.out (Nat.le_trans hzd (hS_9_6_3_5).below.size)).mono ?_
                  rintro e w8 ⟨rfl, hb8⟩
                  have HB8 := Lib.hid hb8
                  clear hb8
                  try (replace hG := HB8.out.cells _ _ hG)
                  go_wp2
                  refine hK8 _ _ (by exact (hS_9_6_3_5).trans HB8.out) ?_; clear hK8; intro hS_9_8_3_5_6 hD
                  refine wpAnyK_one (i := 4) (fuel := 3) (by kernel_rfl) rfl hD ?_
                  clear hD; intro K4 hK4
                  have hcv := conv_cell hG HQ.out
                  go_wp2
                  refine hK4 _ _ (by exact hS_9_8_3_5_6) ?_; clear hK4; intro hS_9_4_3_5_6_8 hD
                  refine wpAnyK_pure (i := 7) (v := ?v9_7_3_5_6_8b1) (fuel := 2) rfl (by kernel_rfl) (fun _ _ _ h => h) hD hS_9_4_3_5_6_8 (.inl ⟨by kernel_rfl, ?y9_7_3_5_6_8b1⟩) ?n9_7_3_5_6_8b1
                  case y9_7_3_5_6_8b1 => intro w' _; go_simp; with_reducible rfl
                  clear hD; intro hD
                  simp only [Act.put, sqA, sqB, sqC]
                  refine wpAnyK_pure (i := 9) (v := ?v9_9_3_5_6_8b1) (fuel := 1) rfl (by kernel_rfl) (fun _ _ _ h => h) hD hS_9_4_3_5_6_8 (.inl ⟨by kernel_rfl, ?y9_9_3_5_6_8b1⟩) ?n9_9_3_5_6_8b1
                  case y9_9_3_5_6_8b1 => intro w' _; go_simp; with_reducible rfl
                  clear hD; intro hD
                  simp only [Act.put, sqA, sqB, sqC]
                  refine wpAnyK_one (i := 10) (fuel := 0) (by kernel_rfl) rfl hD ?_
                  clear hD; intro K10 hK10
                  go_wp2
                  refine hK10 _ _ (by exact hS_9_4_3_5_6_8) ?_; clear hK10; intro hS_9_10_3_5_6_8 hD
                  refine wpAnyK_done (by kernel_rfl) ?_ 0
                  go_wp2
                  go_ret
                  exact ⟨by rw [hfin.out]; rfl, HBD.out.trans ((hS_9_10_3_5_6_8).below.mono (by omega))⟩
          · unfold StepK
            clear hD; intro K5 hK5
            go_wp2_with fail
            refine (Tryz.Builder_Len _ _ _ _ HIBC.out).mono ?_
            rintro e w5 ⟨rfl, hw5⟩
            subst w5
            rw [Lib.byteCells_length]
            go_wp2
            refine hK5 _ _ (by exact (KeepB.refl (w.heap.size + 1) wd)) ?_; clear hK5; intro hS_9_5 hD
            refine wpAnyK_two (i := 3) (i' := 6) (fuel := 6) (by kernel_rfl) rfl rfl hD ?_ ?_ 
            · unfold StepK
              clear hD; intro K3 hK3
              go_wp2
              refine hK3 _ _ (by exact KeepB.alloc hS_9_5 (Nat.le_trans hzd (hS_9_5).below.size) _) ?_; clear hK3; intro hS_9_3_5 hD
              have hG := keep_new hS_9_3_5
              try (have HIBC := Lib.hid (keep_bld hS_9_3_5 HIBC.out))
              refine wpAnyK_two (i := 4) (i' := 6) (fuel := 5) (by kernel_rfl) rfl rfl hD ?_ ?_ 
              · unfold StepK
                clear hD; intro K4 hK4
                have hcv := conv_cell hG HQ.out
                go_wp2
                refine hK4 _ _ (by exact hS_9_3_5) ?_; clear hK4; intro hS_9_4_5_3 hD
                refine wpAnyK_one (i := 6) (fuel := 4) (by kernel_rfl) rfl hD ?_
                clear hD; intro K6 hK6
                go_wp2_with fail
                refine (enc_length body.length _ (by omega)).mono ?_
                rintro e w6 ⟨rfl, hb6⟩
                have HB6 := Lib.hid hb6
                clear hb6
                have HIBC := Lib.hid (bld_kept HIBC.out HB6.out)
                try (replace hG := cell_kept HB6.out (Nat.le_refl _) hG)
                go_wp2
                refine hK6 _ _ (by exact (hS_9_4_5_3).trans (KeepB.of HB6.out (Nat.le_refl _) (Nat.le_trans hzd (hS_9_4_5_3).below.size))) ?_; clear hK6; intro hS_9_6_5_3_4 hD
                refine wpAnyK_pure (i := 7) (v := ?v9_7_5_3_4b1) (fuel := 3) rfl (by kernel_rfl) (fun _ _ _ h => h) hD hS_9_6_5_3_4 (.inl ⟨by kernel_rfl, ?y9_7_5_3_4b1⟩) ?n9_7_5_3_4b1
                case y9_7_5_3_4b1 => intro w' _; go_simp; with_reducible rfl
                clear hD; intro hD
                simp only [Act.put, sqA, sqB, sqC]
                refine wpAnyK_one (i := 8) (fuel := 2) (by kernel_rfl) rfl hD ?_
                clear hD; intro K8 hK8
                go_wp2_with fail
                refine (bld_String _ _ _ _ HIBC.out (Nat.le_trans hzd (hS_9_6_5_3_4).below.size)).mono ?_
                rintro e w8 ⟨rfl, hb8⟩
                have HB8 := Lib.hid hb8
                clear hb8
                try (replace hG := HB8.out.cells _ _ hG)
                go_wp2
                refine hK8 _ _ (by exact (hS_9_6_5_3_4).trans HB8.out) ?_; clear hK8; intro hS_9_8_5_3_4 hD
                refine wpAnyK_pure (i := 9) (v := ?v9_9_5_3_4b1) (fuel := 1) rfl (by kernel_rfl) (fun _ _ _ h => h) hD hS_9_8_5_3_4 (.inl ⟨by kernel_rfl, ?y9_9_5_3_4b1⟩) ?n9_9_5_3_4b1
                case y9_9_5_3_4b1 => intro w' _; go_simp; with_reducible rfl
                clear hD; intro hD
                simp only [Act.put, sqA, sqB, sqC]
                refine wpAnyK_one (i := 10) (fuel := 0) (by kernel_rfl) rfl hD ?_
                clear hD; intro K10 hK10
                go_wp2
                refine hK10 _ _ (by exact hS_9_8_5_3_4) ?_; clear hK10; intro hS_9_10_5_3_4 hD
                refine wpAnyK_done (by kernel_rfl) ?_ 0
                go_wp2
                go_ret
                exact ⟨by rw [hfin.out]; rfl, HBD.out.trans ((hS_9_10_5_3_4).below.mono (by omega))⟩
              · unfold StepK
                clear hD; intro K6 hK6
                go_wp2_with fail
                refine (enc_length body.length _ (by omega)).mono ?_
                rintro e w6 ⟨rfl, hb6⟩
                have HB6 := Lib.hid hb6
                clear hb6
                have HIBC := Lib.hid (bld_kept HIBC.out HB6.out)
                try (replace hG := cell_kept HB6.out (Nat.le_refl _) hG)
                go_wp2
                refine hK6 _ _ (by exact (hS_9_3_5).trans (KeepB.of HB6.out (Nat.le_refl _) (Nat.le_trans hzd (hS_9_3_5).below.size))) ?_; clear hK6; intro hS_9_6_5_3 hD
                refine wpAnyK_two (i := 4) (i' := 8) (fuel := 4) (by kernel_rfl) rfl rfl hD ?_ ?_ 
                · unfold StepK
                  clear hD; intro K4 hK4
                  have hcv := conv_cell hG HQ.out
                  go_wp2
                  refine hK4 _ _ (by exact hS_9_6_5_3) ?_; clear hK4; intro hS_9_4_5_3_6 hD
                  refine wpAnyK_pure (i := 7) (v := ?v9_7_5_3_6_4b1) (fuel := 3) rfl (by kernel_rfl) (fun _ _ _ h => h) hD hS_9_4_5_3_6 (.inl ⟨by kernel_rfl, ?y9_7_5_3_6_4b1⟩) ?n9_7_5_3_6_4b1
                  case y9_7_5_3_6_4b1 => intro w' _; go_simp; with_reducible rfl
                  clear hD; intro hD
                  simp only [Act.put, sqA, sqB, sqC]
                  refine wpAnyK_one (i := 8) (fuel := 2) (by kernel_rfl) rfl hD ?_
                  clear hD; intro K8 hK8
                  go_wp2_with fail
                  refine (bld_String _ _ _ _ HIBC.out (Nat.le_trans hzd (hS_9_4_5_3_6).below.size)).mono ?_
                  rintro e w8 ⟨rfl, hb8⟩
                  have HB8 := Lib.hid hb8
                  clear hb8
                  try (replace hG := HB8.out.cells _ _ hG)
                  go_wp2
                  refine hK8 _ _ (by exact (hS_9_4_5_3_6).trans HB8.out) ?_; clear hK8; intro hS_9_8_5_3_6_4 hD
                  refine wpAnyK_pure (i := 9) (v := ?v9_9_5_3_6_4b1) (fuel := 1) rfl (by kernel_rfl) (fun _ _ _ h => h) hD hS_9_8_5_3_6_4 (.inl ⟨by kernel_rfl, ?y9_9_5_3_6_4b1⟩) ?n9_9_5_3_6_4b1
                  case y9_9_5_3_6_4b1 => intro w' _; go_simp; with_reducible rfl
                  clear hD; intro hD
                  simp only [Act.put, sqA, sqB, sqC]
                  refine wpAnyK_one (i := 10) (fuel := 0) (by kernel_rfl) rfl hD ?_
                  clear hD; intro K10 hK10
                  go_wp2
                  refine hK10 _ _ (by exact hS_9_8_5_3_6_4) ?_; clear hK10; intro hS_9_10_5_3_6_4 hD
                  refine wpAnyK_done (by kernel_rfl) ?_ 0
                  go_wp2
                  go_ret
                  exact ⟨by rw [hfin.out]; rfl, HBD.out.trans ((hS_9_10_5_3_6_4).below.mono (by omega))⟩
                · unfold StepK
                  clear hD; intro K8 hK8
                  go_wp2_with fail
                  refine (bld_String _ _ _ _ HIBC.out (Nat.le_trans hzd (hS_9_6_5_3).below.size)).mono ?_
                  rintro e w8 ⟨rfl, hb8⟩
                  have HB8 := Lib.hid hb8
                  clear hb8
                  try (replace hG := HB8.out.cells _ _ hG)
                  go_wp2
                  refine hK8 _ _ (by exact (hS_9_6_5_3).trans HB8.out) ?_; clear hK8; intro hS_9_8_5_3_6 hD
                  refine wpAnyK_one (i := 4) (fuel := 3) (by kernel_rfl) rfl hD ?_
                  clear hD; intro K4 hK4
                  have hcv := conv_cell hG HQ.out
                  go_wp2
                  refine hK4 _ _ (by exact hS_9_8_5_3_6) ?_; clear hK4; intro hS_9_4_5_3_6_8 hD
                  refine wpAnyK_pure (i := 7) (v := ?v9_7_5_3_6_8b1) (fuel := 2) rfl (by kernel_rfl) (fun _ _ _ h => h) hD hS_9_4_5_3_6_8 (.inl ⟨by kernel_rfl, ?y9_7_5_3_6_8b1⟩) ?n9_7_5_3_6_8b1
                  case y9_7_5_3_6_8b1 => intro w' _; go_simp; with_reducible rfl
                  clear hD; intro hD
                  simp only [Act.put, sqA, sqB, sqC]
                  refine wpAnyK_pure (i := 9) (v := ?v9_9_5_3_6_8b1) (fuel := 1) rfl (by kernel_rfl) (fun _ _ _ h => h) hD hS_9_4_5_3_6_8 (.inl ⟨by kernel_rfl, ?y9_9_5_3_6_8b1⟩) ?n9_9_5_3_6_8b1
                  case y9_9_5_3_6_8b1 => intro w' _; go_simp; with_reducible rfl
                  clear hD; intro hD
                  simp only [Act.put, sqA, sqB, sqC]
                  refine wpAnyK_one (i := 10) (fuel := 0) (by kernel_rfl) rfl hD ?_
                  clear hD; intro K10 hK10
                  go_wp2
                  refine hK10 _ _ (by exact hS_9_4_5_3_6_8) ?_; clear hK10; intro hS_9_10_5_3_6_8 hD
                  refine wpAnyK_done (by kernel_rfl) ?_ 0
                  go_wp2
                  go_ret
                  exact ⟨by rw [hfin.out]; rfl, HBD.out.trans ((hS_9_10_5_3_6_8).below.mono (by omega))⟩
            · unfold StepK
              clear hD; intro K6 hK6
              go_wp2_with fail
              refine (enc_length body.length _ (by omega)).mono ?_
              rintro e w6 ⟨rfl, hb6⟩
              have HB6 := Lib.hid hb6
              clear hb6
              have HIBC := Lib.hid (bld_kept HIBC.out HB6.out)
              try (replace hG := cell_kept HB6.out (Nat.le_refl _) hG)
              go_wp2
              refine hK6 _ _ (by exact (hS_9_5).trans (KeepB.of HB6.out (Nat.le_refl _) (Nat.le_trans hzd (hS_9_5).below.size))) ?_; clear hK6; intro hS_9_6_5 hD
              refine wpAnyK_two (i := 3) (i' := 8) (fuel := 5) (by kernel_rfl) rfl rfl hD ?_ ?_ 
              · unfold StepK
                clear hD; intro K3 hK3
                go_wp2
                refine hK3 _ _ (by exact KeepB.alloc hS_9_6_5 (Nat.le_trans hzd (hS_9_6_5).below.size) _) ?_; clear hK3; intro hS_9_3_5_6 hD
                have hG := keep_new hS_9_3_5_6
                try (have HIBC := Lib.hid (keep_bld hS_9_3_5_6 HIBC.out))
                refine wpAnyK_two (i := 4) (i' := 8) (fuel := 4) (by kernel_rfl) rfl rfl hD ?_ ?_ 
                · unfold StepK
                  clear hD; intro K4 hK4
                  have hcv := conv_cell hG HQ.out
                  go_wp2
                  refine hK4 _ _ (by exact hS_9_3_5_6) ?_; clear hK4; intro hS_9_4_5_6_3 hD
                  refine wpAnyK_pure (i := 7) (v := ?v9_7_5_6_3_4b1) (fuel := 3) rfl (by kernel_rfl) (fun _ _ _ h => h) hD hS_9_4_5_6_3 (.inl ⟨by kernel_rfl, ?y9_7_5_6_3_4b1⟩) ?n9_7_5_6_3_4b1
                  case y9_7_5_6_3_4b1 => intro w' _; go_simp; with_reducible rfl
                  clear hD; intro hD
                  simp only [Act.put, sqA, sqB, sqC]
                  refine wpAnyK_one (i := 8) (fuel := 2) (by kernel_rfl) rfl hD ?_
                  clear hD; intro K8 hK8
                  go_wp2_with fail
                  refine (bld_String _ _ _ _ HIBC.out (Nat.le_trans hzd (hS_9_4_5_6_3).below.size)).mono ?_
                  rintro e w8 ⟨rfl, hb8⟩
                  have HB8 := Lib.hid hb8
                  clear hb8
                  try (replace hG := HB8.out.cells _ _ hG)
                  go_wp2
                  refine hK8 _ _ (by exact (hS_9_4_5_6_3).trans HB8.out) ?_; clear hK8; intro hS_9_8_5_6_3_4 hD
                  refine wpAnyK_pure (i := 9) (v := ?v9_9_5_6_3_4b1) (fuel := 1) rfl (by kernel_rfl) (fun _ _ _ h => h) hD hS_9_8_5_6_3_4 (.inl ⟨by kernel_rfl, ?y9_9_5_6_3_4b1⟩) ?n9_9_5_6_3_4b1
                  case y9_9_5_6_3_4b1 => intro w' _; go_simp; with_reducible rfl
                  clear hD; intro hD
                  simp only [Act.put, sqA, sqB, sqC]
                  refine wpAnyK_one (i := 10) (fuel := 0) (by kernel_rfl) rfl hD ?_
                  clear hD; intro K10 hK10
                  go_wp2
                  refine hK10 _ _ (by exact hS_9_8_5_6_3_4) ?_; clear hK10; intro hS_9_10_5_6_3_4 hD
                  refine wpAnyK_done (by kernel_rfl) ?_ 0
                  go_wp2
                  go_ret
                  exact ⟨by rw [hfin.out]; rfl, HBD.out.trans ((hS_9_10_5_6_3_4).below.mono (by omega))⟩
                · unfold StepK
                  clear hD; intro K8 hK8
                  go_wp2_with fail
                  refine (bld_String _ _ _ _ HIBC.out (Nat.le_trans hzd (hS_9_3_5_6).below.size)).mono ?_
                  rintro e w8 ⟨rfl, hb8⟩
                  have HB8 := Lib.hid hb8
                  clear hb8
                  try (replace hG := HB8.out.cells _ _ hG)
                  go_wp2
                  refine hK8 _ _ (by exact (hS_9_3_5_6).trans HB8.out) ?_; clear hK8; intro hS_9_8_5_6_3 hD
                  refine wpAnyK_one (i := 4) (fuel := 3) (by kernel_rfl) rfl hD ?_
                  clear hD; intro K4 hK4
                  have hcv := conv_cell hG HQ.out
                  go_wp2
                  refine hK4 _ _ (by exact hS_9_8_5_6_3) ?_; clear hK4; intro hS_9_4_5_6_3_8 hD
                  refine wpAnyK_pure (i := 7) (v := ?v9_7_5_6_3_8b1) (fuel := 2) rfl (by kernel_rfl) (fun _ _ _ h => h) hD hS_9_4_5_6_3_8 (.inl ⟨by kernel_rfl, ?y9_7_5_6_3_8b1⟩) ?n9_7_5_6_3_8b1
                  case y9_7_5_6_3_8b1 => intro w' _; go_simp; with_reducible rfl
                  clear hD; intro hD
                  simp only [Act.put, sqA, sqB, sqC]
                  refine wpAnyK_pure (i := 9) (v := ?v9_9_5_6_3_8b1) (fuel := 1) rfl (by kernel_rfl) (fun _ _ _ h => h) hD hS_9_4_5_6_3_8 (.inl ⟨by kernel_rfl, ?y9_9_5_6_3_8b1⟩) ?n9_9_5_6_3_8b1
                  case y9_9_5_6_3_8b1 => intro w' _; go_simp; with_reducible rfl
                  clear hD; intro hD
                  simp only [Act.put, sqA, sqB, sqC]
                  refine wpAnyK_one (i := 10) (fuel := 0) (by kernel_rfl) rfl hD ?_
                  clear hD; intro K10 hK10
                  go_wp2
                  refine hK10 _ _ (by exact hS_9_4_5_6_3_8) ?_; clear hK10; intro hS_9_10_5_6_3_8 hD
                  refine wpAnyK_done (by kernel_rfl) ?_ 0
                  go_wp2
                  go_ret
                  exact ⟨by rw [hfin.out]; rfl, HBD.out.trans ((hS_9_10_5_6_3_8).below.mono (by omega))⟩
              · unfold StepK
                clear hD; intro K8 hK8
                go_wp2_with fail
                refine (bld_String _ _ _ _ HIBC.out (Nat.le_trans hzd (hS_9_6_5).below.size)).mono ?_
                rintro e w8 ⟨rfl, hb8⟩
                have HB8 := Lib.hid hb8
                clear hb8
                try (replace hG := HB8.out.cells _ _ hG)
                go_wp2
                refine hK8 _ _ (by exact (hS_9_6_5).trans HB8.out) ?_; clear hK8; intro hS_9_8_5_6 hD
                refine wpAnyK_one (i := 3) (fuel := 4) (by kernel_rfl) rfl hD ?_
                clear hD; intro K3 hK3
                go_wp2
                refine hK3 _ _ (by exact KeepB.alloc hS_9_8_5_6 (Nat.le_trans hzd (hS_9_8_5_6).below.size) _) ?_; clear hK3; intro hS_9_3_5_6_8 hD
                have hG := keep_new hS_9_3_5_6_8
                try (have HIBC := Lib.hid (keep_bld hS_9_3_5_6_8 HIBC.out))
                refine wpAnyK_one (i := 4) (fuel := 3) (by kernel_rfl) rfl hD ?_
                clear hD; intro K4 hK4
                have hcv := conv_cell hG HQ.out
                go_wp2
                refine hK4 _ _ (by exact hS_9_3_5_6_8) ?_; clear hK4; intro hS_9_4_5_6_8 hD
                refine wpAnyK_pure (i := 7) (v := ?v9_7_5_6_8b1) (fuel := 2) rfl (by kernel_rfl) (fun _ _ _ h => h) hD hS_9_4_5_6_8 (.inl ⟨by kernel_rfl, ?y9_7_5_6_8b1⟩) ?n9_7_5_6_8b1
                case y9_7_5_6_8b1 => intro w' _; go_simp; with_reducible rfl
                clear hD; intro hD
                simp only [Act.put, sqA, sqB, sqC]
                refine wpAnyK_pure (i := 9) (v := ?v9_9_5_6_8b1) (fuel := 1) rfl (by kernel_rfl) (fun _ _ _ h => h) hD hS_9_4_5_6_8 (.inl ⟨by kernel_rfl, ?y9_9_5_6_8b1⟩) ?n9_9_5_6_8b1
                case y9_9_5_6_8b1 => intro w' _; go_simp; with_reducible rfl
                clear hD; intro hD
                simp only [Act.put, sqA, sqB, sqC]
                refine wpAnyK_one (i := 10) (fuel := 0) (by kernel_rfl) rfl hD ?_
                clear hD; intro K10 hK10
                go_wp2
                refine hK10 _ _ (by exact hS_9_4_5_6_8) ?_; clear hK10; intro hS_9_10_5_6_8 hD
                refine wpAnyK_done (by kernel_rfl) ?_ 0
                go_wp2
                go_ret
                exact ⟨by rw [hfin.out]; rfl, HBD.out.trans ((hS_9_10_5_6_8).below.mono (by omega))⟩
end Go.Proofs.YtecmmdealjhdpaaGreat

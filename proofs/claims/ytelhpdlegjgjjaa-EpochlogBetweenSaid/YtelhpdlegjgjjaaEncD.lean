/- Walks: the bytes of a length. -/
import Derived.Test.YtelhpdlegjgjjaaEncC
set_option linter.unusedVariables false
set_option linter.unusedSimpArgs false
namespace Go.Proofs.Ytelhpdlegjgjjaa
open Go.RowKit

theorem or128 (c : Nat) (h : c < 256) : bits BinOp.or IntKind.u8 (c : Int) 128 = ((c % 128 + 128 : Nat) : Int) := by
  have : ∀ c : Fin 256, bits BinOp.or IntKind.u8 ((c.1 : Nat) : Int) 128 = ((c.1 % 128 + 128 : Nat) : Int) := by decide +kernel
  exact this ⟨c, h⟩
theorem or128' (m : Nat) : bits BinOp.or IntKind.u8 ((m : Int) % 256) 128 = ((m % 128 + 128 : Nat) : Int) := by
  rw [show ((m : Int) % 256) = ((m % 256 : Nat) : Int) from by omega, or128 _ (by omega)]
  omega
theorem toNat_small {m : Nat} (h : m < 256) : (UInt8.ofNat m).toNat = m := by
  rw [UInt8.toNat_ofNat']; omega

/-- Bytes in a new block. -/
theorem bytesAt_alloc (w : World) (cs : Array Value) (T : TypeId) (bs : List UInt8) (len cap : Nat) (hl : bs.length = len) (hc : len ≤ cap) (hm : cap ≤ 9223372036854775807)
    (h : ∀ k, k < len → cs[k]? = some (.int .u8 (byteI bs k))) : BytesAt (w.alloc (.cells cs T)) (some ⟨w.heap.size, 0, none⟩) len cap bs :=
  ⟨hl, hc, hm, fun _ => ⟨_, _, rfl, fun k hk => by rw [Nat.zero_add, World.cell?_alloc_at (hn := rfl)]; exact h k hk⟩⟩

theorem lenB_0 (n : Nat) (h : n < 128) : lenB n = [UInt8.ofNat (n)] := by
  unfold lenB
  rw [lenF, if_pos (by omega)]
theorem lenB_at0 (w : World) (n : Nat) (h : n < 128) (T : TypeId) : BytesAt (w.alloc (.cells #[.int .u8 ((n : Int)), .int .u8 0, .int .u8 0, .int .u8 0, .int .u8 0, .int .u8 0, .int .u8 0, .int .u8 0, .int .u8 0, .int .u8 0] T)) (some ⟨w.heap.size, 0, none⟩) 1 10 (lenB n) := by
  rw [lenB_0 n h]
  refine bytesAt_alloc w _ T _ _ _ rfl (by omega) (by omega) fun k hk => ?_
  match k, hk with
  | 0, _ => exact congrArg (fun x => some (Value.int .u8 x)) (show ((n : Nat) : Int) = _ from congrArg Int.ofNat (toNat_small (by omega)).symm)

theorem lenB_1 (n : Nat) (hl : 128 ≤ n) (h : n < 16384) : lenB n = [UInt8.ofNat (n % 128 + 128), UInt8.ofNat (n / 128)] := by
  unfold lenB
  rw [lenF, if_neg (by omega)]
  rw [lenF, if_pos (by omega)]
theorem lenB_at1 (w : World) (n : Nat) (hl : 128 ≤ n) (h : n < 16384) (T : TypeId) : BytesAt (w.alloc (.cells #[.int .u8 (bits BinOp.or IntKind.u8 ((n : Int) % 256) 128), .int .u8 ((n : Int) / 128), .int .u8 0, .int .u8 0, .int .u8 0, .int .u8 0, .int .u8 0, .int .u8 0, .int .u8 0, .int .u8 0] T)) (some ⟨w.heap.size, 0, none⟩) 2 10 (lenB n) := by
  rw [lenB_1 n hl h]
  refine bytesAt_alloc w _ T _ _ _ rfl (by omega) (by omega) fun k hk => ?_
  match k, hk with
  | 0, _ => exact congrArg (fun x => some (Value.int .u8 x)) ((or128' (n)).trans (congrArg Int.ofNat (toNat_small (by omega)).symm))
  | 1, _ => exact congrArg (fun x => some (Value.int .u8 x)) (show ((n / 128 : Nat) : Int) = _ from congrArg Int.ofNat (toNat_small (by omega)).symm)

theorem lenB_2 (n : Nat) (hl : 16384 ≤ n) (h : n < 2097152) : lenB n = [UInt8.ofNat (n % 128 + 128), UInt8.ofNat (n / 128 % 128 + 128), UInt8.ofNat (n / 128 / 128)] := by
  unfold lenB
  rw [lenF, if_neg (by omega)]
  rw [lenF, if_neg (by omega)]
  rw [lenF, if_pos (by omega)]
theorem lenB_at2 (w : World) (n : Nat) (hl : 16384 ≤ n) (h : n < 2097152) (T : TypeId) : BytesAt (w.alloc (.cells #[.int .u8 (bits BinOp.or IntKind.u8 ((n : Int) % 256) 128), .int .u8 (bits BinOp.or IntKind.u8 ((n : Int) / 128 % 256) 128), .int .u8 ((n : Int) / 128 / 128), .int .u8 0, .int .u8 0, .int .u8 0, .int .u8 0, .int .u8 0, .int .u8 0, .int .u8 0] T)) (some ⟨w.heap.size, 0, none⟩) 3 10 (lenB n) := by
  rw [lenB_2 n hl h]
  refine bytesAt_alloc w _ T _ _ _ rfl (by omega) (by omega) fun k hk => ?_
  match k, hk with
  | 0, _ => exact congrArg (fun x => some (Value.int .u8 x)) ((or128' (n)).trans (congrArg Int.ofNat (toNat_small (by omega)).symm))
  | 1, _ => exact congrArg (fun x => some (Value.int .u8 x)) ((or128' (n / 128)).trans (congrArg Int.ofNat (toNat_small (by omega)).symm))
  | 2, _ => exact congrArg (fun x => some (Value.int .u8 x)) (show ((n / 128 / 128 : Nat) : Int) = _ from congrArg Int.ofNat (toNat_small (by omega)).symm)

theorem lenB_3 (n : Nat) (hl : 2097152 ≤ n) (h : n < 268435456) : lenB n = [UInt8.ofNat (n % 128 + 128), UInt8.ofNat (n / 128 % 128 + 128), UInt8.ofNat (n / 128 / 128 % 128 + 128), UInt8.ofNat (n / 128 / 128 / 128)] := by
  unfold lenB
  rw [lenF, if_neg (by omega)]
  rw [lenF, if_neg (by omega)]
  rw [lenF, if_neg (by omega)]
  rw [lenF, if_pos (by omega)]
theorem lenB_at3 (w : World) (n : Nat) (hl : 2097152 ≤ n) (h : n < 268435456) (T : TypeId) : BytesAt (w.alloc (.cells #[.int .u8 (bits BinOp.or IntKind.u8 ((n : Int) % 256) 128), .int .u8 (bits BinOp.or IntKind.u8 ((n : Int) / 128 % 256) 128), .int .u8 (bits BinOp.or IntKind.u8 ((n : Int) / 128 / 128 % 256) 128), .int .u8 ((n : Int) / 128 / 128 / 128), .int .u8 0, .int .u8 0, .int .u8 0, .int .u8 0, .int .u8 0, .int .u8 0] T)) (some ⟨w.heap.size, 0, none⟩) 4 10 (lenB n) := by
  rw [lenB_3 n hl h]
  refine bytesAt_alloc w _ T _ _ _ rfl (by omega) (by omega) fun k hk => ?_
  match k, hk with
  | 0, _ => exact congrArg (fun x => some (Value.int .u8 x)) ((or128' (n)).trans (congrArg Int.ofNat (toNat_small (by omega)).symm))
  | 1, _ => exact congrArg (fun x => some (Value.int .u8 x)) ((or128' (n / 128)).trans (congrArg Int.ofNat (toNat_small (by omega)).symm))
  | 2, _ => exact congrArg (fun x => some (Value.int .u8 x)) ((or128' (n / 128 / 128)).trans (congrArg Int.ofNat (toNat_small (by omega)).symm))
  | 3, _ => exact congrArg (fun x => some (Value.int .u8 x)) (show ((n / 128 / 128 / 128 : Nat) : Int) = _ from congrArg Int.ofNat (toNat_small (by omega)).symm)

theorem lenB_4 (n : Nat) (hl : 268435456 ≤ n) (h : n < 34359738368) : lenB n = [UInt8.ofNat (n % 128 + 128), UInt8.ofNat (n / 128 % 128 + 128), UInt8.ofNat (n / 128 / 128 % 128 + 128), UInt8.ofNat (n / 128 / 128 / 128 % 128 + 128), UInt8.ofNat (n / 128 / 128 / 128 / 128)] := by
  unfold lenB
  rw [lenF, if_neg (by omega)]
  rw [lenF, if_neg (by omega)]
  rw [lenF, if_neg (by omega)]
  rw [lenF, if_neg (by omega)]
  rw [lenF, if_pos (by omega)]
theorem lenB_at4 (w : World) (n : Nat) (hl : 268435456 ≤ n) (h : n < 34359738368) (T : TypeId) : BytesAt (w.alloc (.cells #[.int .u8 (bits BinOp.or IntKind.u8 ((n : Int) % 256) 128), .int .u8 (bits BinOp.or IntKind.u8 ((n : Int) / 128 % 256) 128), .int .u8 (bits BinOp.or IntKind.u8 ((n : Int) / 128 / 128 % 256) 128), .int .u8 (bits BinOp.or IntKind.u8 ((n : Int) / 128 / 128 / 128 % 256) 128), .int .u8 ((n : Int) / 128 / 128 / 128 / 128), .int .u8 0, .int .u8 0, .int .u8 0, .int .u8 0, .int .u8 0] T)) (some ⟨w.heap.size, 0, none⟩) 5 10 (lenB n) := by
  rw [lenB_4 n hl h]
  refine bytesAt_alloc w _ T _ _ _ rfl (by omega) (by omega) fun k hk => ?_
  match k, hk with
  | 0, _ => exact congrArg (fun x => some (Value.int .u8 x)) ((or128' (n)).trans (congrArg Int.ofNat (toNat_small (by omega)).symm))
  | 1, _ => exact congrArg (fun x => some (Value.int .u8 x)) ((or128' (n / 128)).trans (congrArg Int.ofNat (toNat_small (by omega)).symm))
  | 2, _ => exact congrArg (fun x => some (Value.int .u8 x)) ((or128' (n / 128 / 128)).trans (congrArg Int.ofNat (toNat_small (by omega)).symm))
  | 3, _ => exact congrArg (fun x => some (Value.int .u8 x)) ((or128' (n / 128 / 128 / 128)).trans (congrArg Int.ofNat (toNat_small (by omega)).symm))
  | 4, _ => exact congrArg (fun x => some (Value.int .u8 x)) (show ((n / 128 / 128 / 128 / 128 : Nat) : Int) = _ from congrArg Int.ofNat (toNat_small (by omega)).symm)

set_option maxRecDepth 100000 in
set_option maxHeartbeats 2000000 in
theorem enc_length (n : Nat) (w : World) (h : n < 34359738368) : Calls Try.prog 71 #[.int .i64 n] w (Ret (.string (bstr (lenB n))) w) := by
  by_cases h0 : n < 128
  · have hconv := BytesAt.conv (lenB_at0 w n h0 110) 82 9 5 Try.underlying82 Try.underlying5 Try.underlying9
    go_enter Try.func71, Try.ntmps71
    go_wp2
    refine wp_loop_rounds 1 ?_
    iterate 1 (rw [rounds_succ]; go_wp2_with fail)
    go_ret
    exact ⟨rfl, (Below.refl _ _).alloc (Nat.le_refl _) _⟩
  · skip
    by_cases h1 : n < 16384
    · have hconv := BytesAt.conv (lenB_at1 w n (by omega) h1 110) 82 9 5 Try.underlying82 Try.underlying5 Try.underlying9
      go_enter Try.func71, Try.ntmps71
      go_wp2
      refine wp_loop_rounds 2 ?_
      iterate 2 (rw [rounds_succ]; go_wp2_with fail)
      go_ret
      exact ⟨rfl, (Below.refl _ _).alloc (Nat.le_refl _) _⟩
    · skip
      by_cases h2 : n < 2097152
      · have hconv := BytesAt.conv (lenB_at2 w n (by omega) h2 110) 82 9 5 Try.underlying82 Try.underlying5 Try.underlying9
        go_enter Try.func71, Try.ntmps71
        go_wp2
        refine wp_loop_rounds 3 ?_
        iterate 3 (rw [rounds_succ]; go_wp2_with fail)
        go_ret
        exact ⟨rfl, (Below.refl _ _).alloc (Nat.le_refl _) _⟩
      · skip
        by_cases h3 : n < 268435456
        · have hconv := BytesAt.conv (lenB_at3 w n (by omega) h3 110) 82 9 5 Try.underlying82 Try.underlying5 Try.underlying9
          go_enter Try.func71, Try.ntmps71
          go_wp2
          refine wp_loop_rounds 4 ?_
          iterate 4 (rw [rounds_succ]; go_wp2_with fail)
          go_ret
          exact ⟨rfl, (Below.refl _ _).alloc (Nat.le_refl _) _⟩
        · skip
          have hconv := BytesAt.conv (lenB_at4 w n (by omega) h 110) 82 9 5 Try.underlying82 Try.underlying5 Try.underlying9
          go_enter Try.func71, Try.ntmps71
          go_wp2
          refine wp_loop_rounds 5 ?_
          iterate 5 (rw [rounds_succ]; go_wp2_with fail)
          go_ret
          exact ⟨rfl, (Below.refl _ _).alloc (Nat.le_refl _) _⟩
end Go.Proofs.Ytelhpdlegjgjjaa

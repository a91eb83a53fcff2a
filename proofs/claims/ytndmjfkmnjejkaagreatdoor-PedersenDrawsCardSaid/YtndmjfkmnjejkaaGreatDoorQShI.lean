import Derived.Test.YtndmjfkmnjejkaaGreatDoorQShF
import Derived.Deep.Cut
set_option linter.unusedVariables false
set_option linter.unusedSimpArgs false
namespace Go.Proofs.YtndmjfkmnjejkaaGreatDoor
set_option maxRecDepth 100000
set_option maxHeartbeats 2000000
open Go.RowKit Go.Lib
theorem shE8_get (N : Nat) {q : Nat} (h : q < 8) : (shE8 N).take (q + 1) = (shE8 N).take q ++ [UInt8.ofNat (N / 2 ^ (56 - 8 * q))] := by
 match q, h with
 | 0, _ => rfl
 | 1, _ => rfl
 | 2, _ => rfl
 | 3, _ => rfl
 | 4, _ => rfl
 | 5, _ => rfl
 | 6, _ => rfl
 | 7, _ => show shE8 N = _; unfold shE8; simp
theorem byte_val (n sh : Nat) : (#[Value.int .u8 ((n : Int) * 8 / 2 ^ sh % 256)] : Array Value) = (byteCells [UInt8.ofNat (n * 8 / 2 ^ sh)]).toArray := by
 have : ((n : Int) * 8 / 2 ^ sh % 256) = ((n * 8 / 2 ^ sh % 256 : Nat) : Int) := by simp
 rw [this]
 simp [byteCells, UInt8.toNat_ofNat']
theorem h_Sum (s : ByteArray) (hs : s.size ≤ 1000000000000) (w : World) : Calls Tryz.prog 211 #[.string s] w (Ret (.string (bstr (shaL s.data.toList))) w) := by
 obtain ⟨n, hn⟩ : ∃ n, s.size = n := ⟨_, rfl⟩
 obtain ⟨l, hl⟩ : ∃ l, s.data.toList = l := ⟨_, rfl⟩
 have hll : l.length = n := by rw [← hl, ← hn]; exact Array.length_toList
 obtain ⟨r, hr⟩ : ∃ r, bstr (shaL l) = r := ⟨_, rfl⟩
 have HR := Hq hr
 have HL := Hq hll
 have hmk := make_room n (n + 72) (by omega) (by omega) w
 simp only [Int.natCast_add, Int.cast_ofNat_Int] at hmk
 have HCR := Hq (copy_run w s n (n + 72) hn (by omega) 3)
 have HM1 := Hq (copied w s (n + 72) (by omega) (by unfold maxLen; omega))
 rw [hl] at HCR HM1 ⊢
 rw [hr]
 obtain ⟨w1, hw1⟩ : ∃ w1, (w.alloc (.cells (madeCells #[.int .u8 0] (n + 72)) 5)).setRow w.heap.size (((madeCells #[.int .u8 0] (n + 72)).toList.take 0 ++ byteCells l ++ (madeCells #[.int .u8 0] (n + 72)).toList.drop (0 + s.size)).toArray) = w1 := ⟨_, rfl⟩
 have HB1 := Hq (show Below w.heap.size w w1 from hw1 ▸ copied_below _ _ _ _)
 rw [hw1] at HCR HM1
 clear hw1 hr hl hll
 rw [hn] at hs
 have hsi : (n : Int) ≤ 1000000000000 := by omega
 clear hs
 go_enter Tryz.func211, Tryz.ntmps211
 go_wp2_with (first
  | refine wpList_copy_ran _ rfl (.tmp 16) (.tmp 17) 125 9 rfl _ _ rfl rfl HCR.out ?_
  | (at_builtin; refine wpList_append_msg _ rfl (.tmp 19) (.tmp 20) rfl w.heap.size (n + 72) n 1 l [128] HL.out rfl rfl (HM1.out.kept ((Below.refl _ _).alloc (Nat.le_refl _) _)) w1.heap.size 1 rfl (heap_alloc_new _ _) (by omega) ?_))
 intro w2 hm2 hb2
 obtain ⟨H, hH⟩ : ∃ H, w.heap.size = H := ⟨_, rfl⟩
 rw [hH] at HB1 HM1 hm2 hb2 ⊢
 have HM2 := Hq hm2
 have HB2 := Hq (show Below H w w2 from (HB1.out.alloc (by rw [← hH]; exact HB1.out.size) _).trans hb2)
 clear hm2 hb2 HM1 HB1 HCR hmk
 have HZ := Hq (show zs n = (119 - n % 64) % 64 from rfl)
 go_wp2
 go_loopw [3] (fun v wr => ∃ k : Nat, k ≤ zs n ∧ v = .slice (some ⟨H, 0, none⟩) (n + 1 + k) (n + 72) ∧ MsgAt wr H (n + 72) (l ++ [128] ++ List.replicate k 0) ∧ Below H w wr) (fun v _ => n + 100 - sliceLen v)
 case atStart => exact ⟨0, Nat.zero_le _, rfl, by simpa using HM2.out, HB2.out⟩
 case round =>
  obtain ⟨k, hk, rfl, hm, hb⟩ := hrel
  have HM := Hq hm
  have HB := Hq hb
  clear hm hb
  obtain ⟨j, hj⟩ : ∃ j, n + 1 + k = j := ⟨_, rfl⟩
  have HJ := Hq hj
  rw [hj]
  have HLEN := Hq (show (l ++ [128] ++ List.replicate k 0).length = j from by simp [HL.out]; omega)
  by_cases hlt : k < zs n
  · have hne : ¬ ((j : Int) % 64 = 56) := by have := HZ.out; omega
    have hj72 : j + 1 ≤ n + 72 := by have := HZ.out; omega
    clear hj hk
    go_wp2_with (at_builtin; refine wpList_append_msg _ rfl (.tmp 26) (.tmp 27) rfl H (n + 72) j 1 (l ++ [128] ++ List.replicate k 0) [0] HLEN.out rfl rfl (HM.out.kept ((Below.refl _ _).alloc (Nat.le_refl _) _)) wr.heap.size 1 rfl (heap_alloc_new _ _) hj72 ?_)
    intro w3 hm3 hb3
    have HM3 := Hq hm3
    have HB3 := Hq (show Below H w w3 from (HB.out.alloc (by have := HM.out.lt; omega) _).trans hb3)
    clear hm3 hb3 hj72 hne
    go_wp2
    go_roundw
    case rel =>
     refine ⟨k + 1, by omega, by have := HJ.out; rw [← this]; rfl, ?_, HB3.out⟩
     rw [List.replicate_succ', ← List.append_assoc]
     simpa using HM3.out
    case measure => have := HJ.out; have := HZ.out; simp [sliceLen]; omega
  · have he : (j : Int) % 64 = 56 := by have := HZ.out; omega
    have HKZ := Hq (show k = zs n from by omega)
    have HMZ := Hq (show MsgAt wr H (n + 72) (l ++ [128] ++ List.replicate (zs n) 0) from by rw [← HKZ.out]; exact HM.out)
    obtain ⟨M, hM⟩ : ∃ M, l ++ [128] ++ List.replicate (zs n) 0 = M := ⟨_, rfl⟩
    rw [hM] at HMZ
    have HLM := Hq (show M.length = j from by rw [← hM, ← HKZ.out]; exact HLEN.out)
    have hj64 := Hq (show j + 8 ≤ n + 72 from by have := HZ.out; omega)
    have HMM := Hq hM
    clear hM HM hk hlt hj HLEN HJ
    go_wp2
    clear he
    go_loopw [3, 5] (fun v i wr => ∃ q : Nat, q ≤ 8 ∧ v = .slice (some ⟨H, 0, none⟩) (j + q) (n + 72) ∧ i = .int .i64 (56 - 8 * (q : Int)) ∧ MsgAt wr H (n + 72) (M ++ (shE8 (n * 8)).take q) ∧ Below H w wr) (fun v _ _ => n + 100 - sliceLen v)
    case atStart => exact ⟨0, Nat.zero_le _, rfl, rfl, by simpa using HMZ.out, HB.out⟩
    case round =>
     obtain ⟨q, hq, rfl, rfl, hm, hb⟩ := hrel
     have HM := Hq hm
     have HB := Hq hb
     clear hm hb
     by_cases hlt : q < 8
     · obtain ⟨sh, hsh⟩ : ∃ sh, 56 - 8 * q = sh := ⟨_, rfl⟩
       have hshi : (56 : Int) - 8 * (q : Int) = (sh : Int) := by omega
       have hsh64 : (sh : Int) < 64 := by omega
       have HV := Hq (byte_val n sh)
       have HTK := Hq (shE8_get (n * 8) hlt)
       rw [hsh] at HTK
       have HLQ := Hq (show (M ++ (shE8 (n * 8)).take q).length = j + q from by rw [List.length_append, HLM.out, List.length_take]; simp [shE8]; omega)
       have hfit : j + q + 1 ≤ n + 72 := by have := hj64.out; omega
       clear hsh
       go_wp2_with (at_builtin; refine wpList_append_msg _ rfl (.tmp 37) (.tmp 42) rfl H (n + 72) (j + q) 1 (M ++ (shE8 (n * 8)).take q) [UInt8.ofNat (n * 8 / 2 ^ sh)] HLQ.out rfl rfl (HM.out.kept ((Below.refl _ _).alloc (Nat.le_refl _) _)) wr.heap.size 1 rfl (by rw [← HV.out]; exact heap_alloc_new _ _) hfit ?_)
       intro w3 hm3 hb3
       have HM3 := Hq hm3
       have HB3 := Hq (show Below H w w3 from (HB.out.alloc (by have := HM.out.lt; omega) _).trans hb3)
       clear hm3 hb3 hfit
       have hsub : (sh : Int) - 8 = 56 - 8 * ((q + 1 : Nat) : Int) := by omega
       go_wp2
       go_roundw
       case rel =>
        refine ⟨q + 1, by omega, rfl, ?_, ?_, HB3.out⟩
        · simp
        · rw [HTK.out]; exact HM3.out
       case measure => have := hj64.out; simp [sliceLen]; omega
     · have HQ := Hq (show q = 8 from by omega)
       have hge : ¬ ((0 : Int) ≤ 56 - 8 * (q : Int)) := by omega
       obtain ⟨Ln, hLn⟩ : ∃ x, j + q = x := ⟨_, rfl⟩
       have HP := Hq (show MsgAt wr H (n + 72) (padL l) from by
        have h := HM.out
        rw [HQ.out, ← HMM.out] at h
        unfold padL
        rw [HL.out]
        exact h)
       have HLP := Hq (show (padL l).length = Ln from by rw [padL_length, ← hLn, HQ.out]; have h1 := HLM.out; rw [← HMM.out] at h1; simp [HL.out] at h1 ⊢; omega)
       have HMOD := Hq (show Ln % 64 = 0 from by rw [← HLP.out]; exact padL_mod l)
       rw [hLn]
       clear hLn HM hq hlt HMZ HLM HMM
       go_wp2_with fail
       refine (h_first _).mono ?_
       rintro e w4 ⟨rfl, hb4⟩
       dsimp only
       have HB4 := Hq (show Below H w w4 from HB.out.trans (hb4.mono (by have := HP.out.lt; omega)))
       have HP4 := Hq (HP.out.kept hb4)
       clear hb4 HB HP
       obtain ⟨X, hX⟩ : ∃ X, w4.heap.size = X := ⟨_, rfl⟩
       have hHX : H < X := by rw [← hX]; exact HP4.out.lt
       go_step
       refine Great.wpList_allocTo rfl _ rfl (.pointer (some ⟨X, 0, none⟩)) (.cells z8 230) (by rw [← hX]; kernel_rfl) ?_
       refine wpList_store_rowTo rfl 230 _ _ rfl rfl X st0.arr (by kernel_rfl) (by kernel_rfl) 230 z8 (by rw [← hX]; exact heap_alloc_new _ _) (by kernel_rfl) (by kernel_rfl) (W8.arr_one _) ?_
       rw [← hX, World.setRow_alloc_new]
       obtain ⟨w5, hw5⟩ : ∃ w5, w4.alloc (.cells st0.arr 230) = w5 := ⟨_, rfl⟩
       have hb5 : Below X w4 w5 := hX ▸ hw5 ▸ (Below.refl _ _).alloc (Nat.le_refl _) _
       have HX5 := Hq (show RowS w5 X st0 from by rw [← hw5, ← hX]; exact heap_alloc_new _ _)
       have HB5 := Hq (show Below H w w5 from HB4.out.trans (hb5.mono (by omega)))
       have HP5 := Hq (HP4.out.kept (hX ▸ hb5))
       rw [hw5, hX]
       clear hw5 hb5 HB4 HP4
       obtain ⟨P, hP⟩ : ∃ P, padL l = P := ⟨_, rfl⟩
       have HPP := Hq hP
       rw [hP] at HLP HP5
       clear hP
       go_wp2
       simp only [Act.put, sqA, sqB, sqC]
       go_loopw [3] (fun v wr => ∃ i o c : Nat, 64 * i ≤ Ln ∧ v = .slice (some ⟨H, o, none⟩) (Ln - 64 * i) c ∧ BytesAt wr (some ⟨H, o, none⟩) (Ln - 64 * i) c (P.drop (64 * i)) ∧ RowS wr X (blks st0 i P) ∧ Below H w wr ∧ X < wr.heap.size) (fun v _ => sliceLen v)
       case atStart => exact ⟨0, 0, n + 72, Nat.zero_le _, rfl, by have := HP5.out.bytes; rw [HLP.out] at this; exact this, HX5.out, HB5.out, HX5.out.lt⟩
       case round =>
        obtain ⟨i, o, c, hi, rfl, hby, hx, hb, hxs⟩ := hrel
        have HBY := Hq hby
        have HX := Hq hx
        have HB := Hq hb
        clear hby hx hb
        obtain ⟨rem, hrem⟩ : ∃ x, Ln - 64 * i = x := ⟨_, rfl⟩
        rw [hrem] at HBY ⊢
        by_cases h0 : 0 < rem
        · have hr64 : 64 ≤ rem := by have := HMOD.out; omega
          have hri : 0 < (rem : Int) := by omega
          have hc64 : 64 ≤ c := by have := HBY.out.2.1; omega
          have hc64i : (64 : Int) ≤ (c : Int) := by omega
          have hr64i : (64 : Int) ≤ (rem : Int) := by omega
          have HLD := Hq (show ∀ w', Below wr.drew.heap.size wr.drew w' → RowS w' X (blks st0 i P) from fun w' hb => (show RowS wr.drew X (blks st0 i P) from HX.out).kept hb hxs)
          go_wp2
          trace_state
          refine wp_region_K 4 (Below (wr.drew).heap.size (wr.drew)) (by kernel_rfl) ?_
          intro hD
          refine wpAnyK_takeD (i := 0) (d := some 50) (v := (.agg (blks st0 i P).arr)) (fuel := 4) rfl (by kernel_rfl) (by kernel_rfl) (by kernel_rfl) (fun _ _ _ h => h) hD (Below.refl _ _) (.inl ⟨by kernel_rfl, ?y14_0b1⟩) ?n14_0b1
          case y14_0b1 =>
           intro w' hS'
           exact load_row_run 230 _ rfl X rfl _ (HLD.out _ hS') Tryz.underlying230 rfl (by kernel_rfl)
          clear hD; intro hD
          simp only [Act.put, sqA, sqB, sqC]
          refine wpAnyK_pureD (i := 1) (d := some 51) (v := ?v14_1b1) (fuel := 3) rfl (by kernel_rfl) (by kernel_rfl) (fun _ _ _ h => h) hD (Below.refl _ _) (.inl ⟨by kernel_rfl, ?y14_1b1⟩) ?n14_1b1
          case y14_1b1 => intro w' _; go_simp; with_reducible rfl
          clear hD; intro hD
          simp only [Act.put, sqA, sqB, sqC]
          refine wpAnyK_pureD (i := 2) (d := some 52) (v := ?v14_2b1) (fuel := 2) rfl (by kernel_rfl) (by kernel_rfl) (fun _ _ _ h => h) hD (Below.refl _ _) (.inl ⟨by kernel_rfl, ?y14_2b1⟩) ?n14_2b1
          case y14_2b1 => intro w' _; go_simp; with_reducible rfl
          clear hD; intro hD
          simp only [Act.put, sqA, sqB, sqC]
          refine rO 3 1 rfl hD ?_; clear hD; intro K3 hK3
          go_wp2_with fail
          refine (h_after (blks st0 i P) ((P.drop (64 * i)).take 64) H o c _ ((show BytesAt wr.drew _ _ _ _ from HBY.out).front 64 hr64)).mono ?_
          rintro e w6 ⟨rfl, hb6⟩
          have HX6 := Hq (show RowS w6 X (blks st0 i P) from (show RowS wr.drew X (blks st0 i P) from HX.out).kept hb6 hxs)
          have HBY6 := Hq ((show BytesAt wr.drew _ _ _ _ from HBY.out).kept hb6)
          have HB6 := Hq (show Below H w w6 from HB.out.drew.trans (hb6.mono (by show H ≤ wr.heap.size; omega)))
          have HS6 := Hq (show X < w6.heap.size from HX6.out.lt)
          have HBW := Hq hb6
          clear hb6
          go_wp2
          refine hK3 _ _ (by exact HBW.out) ?_; clear hK3; intro hS_14_3 hD
          refine wpAnyK_oneT (i := 4) (fuel := 0) (by kernel_rfl) rfl hD (by kernel_rfl) ?_; clear hD; intro K4 hK4
          rw [← blks_succ]
          obtain ⟨Y, hY⟩ : ∃ Y, blks st0 (i + 1) P = Y := ⟨_, rfl⟩
          have HY := Hq hY
          rw [hY]
          clear hY
          refine wpList_store_rowTo rfl 230 _ _ rfl rfl X Y.arr rfl rfl 230 _ HX6.out (by kernel_rfl) (by kernel_rfl) (W8.arr_one _) ?_
          obtain ⟨w7, hw7⟩ : ∃ w7, w6.setRow X Y.arr = w7 := ⟨_, rfl⟩
          have HX7 := Hq (show RowS w7 X Y from hw7 ▸ setRow_heap _ _ _ _ _ _ HX6.out)
          have HB7 := Hq (show Below X w6 w7 from hw7 ▸ below_setRow (Below.refl _ _) (Nat.le_refl _) _)
          have HS7 := Hq (show X < w7.heap.size from HX7.out.lt)
          rw [hw7]
          clear hw7
          go_wp2
          refine hK4 _ _ ?_; clear hK4; intro hD
          refine wpAnyK_done (by kernel_rfl) ?_ 0
          clear hD
          go_wp2
          refine ⟨?_, ?_⟩
          · have hby7 := HBY6.out.keptB HB7.out hHX
            have hfr := hby7.from 64 hr64
            rw [List.drop_drop] at hfr
            have hxi : RowS w7 X (blks st0 (i + 1) P) := by rw [HY.out]; exact HX7.out
            have hbi : Below H w w7 := HB6.out.trans (HB7.out.mono (by omega))
            have hl1 : Ln - 64 * (i + 1) = rem - 64 := by omega
            have hd1 : 64 * i + 64 = 64 * (i + 1) := by omega
            rw [hd1] at hfr
            by_cases hc : c = 64
            · rw [if_pos hc] at hfr ⊢
              exact ⟨i + 1, o, c - 64, by omega, by rw [hl1], by rw [hl1]; exact hfr, hxi, hbi, HS7.out⟩
            · rw [if_neg hc] at hfr ⊢
              exact ⟨i + 1, o + 64, c - 64, by omega, by rw [hl1], by rw [hl1]; exact hfr, hxi, hbi, HS7.out⟩
          · simp [sliceLen]; omega
        · have hr0 : ¬ (0 : Int) < (rem : Int) := by omega
          obtain ⟨F, hF⟩ : ∃ F, blks st0 i P = F := ⟨_, rfl⟩
          have HF := Hq (show r = bstr (F.ws.flatMap wo) from by
           rw [← HR.out, ← hF]; unfold shaL; rw [HPP.out, HLP.out, show Ln / 64 = i from by omega])
          rw [hF] at HX
          clear hF h0 HBY
          obtain ⟨G, hG⟩ : ∃ G, wr.heap.size = G := ⟨_, rfl⟩
          have hHG : H < G := by rw [← hG]; omega
          go_wp2_with (refine wpList_load_row rfl 230 _ rfl X rfl 230 F.arr (0, 0) _ HX.out Tryz.underlying230 rfl (by kernel_rfl) ?_)
          trace_state
          go_loopw [7, 55] (fun v x wr => ∃ i : Nat, i ≤ 8 ∧ x = .int .i64 i ∧ wr.ownsRow G 5 1 v (4 * i) (byteCells ((F.ws.take i).flatMap wo)) ∧ Below H w wr ∧ G ≤ wr.heap.size) (fun _ x _ => 8 - (RowKit.intOf x).toNat)
          case atStart => exact ⟨0, by omega, rfl, World.ownsRow_nil _ _ _ _, HB.out, by omega⟩
          case round =>
           obtain ⟨i2, hi2, rfl, hown, hb, hg⟩ := hrel
           have HO := Hq hown
           have HB2 := Hq hb
           clear hown hb
           by_cases hlt : i2 < 8
           · have hi2i : (i2 : Int) < 8 := by omega
             have hidx := fun w => index_word F i2 hlt w
             have HTK := Hq (ws_take F i2 hlt)
             obtain ⟨x, hx⟩ : ∃ x, F.at i2 = x := ⟨_, rfl⟩
             rw [hx] at hidx HTK
             clear hx
             have HWC := Hq (word_cells x)
             go_wp2_with (at_builtin; refine wpList_append_word _ rfl (.tmp 58) (.tmp 70) rfl G (4 * i2) _ ((F.ws.take i2).flatMap wo) rfl (HO.out.alloc _) (by omega) wr.heap.size 4 x rfl (by rw [← HWC.out]; exact heap_alloc_new _ _) (by simp; omega) ?_)
             intro v3 w8 ho8 hb8
             have HO8 := Hq ho8
             have HB8 := Hq (show Below H w w8 from (HB2.out.alloc (by omega) _).trans (hb8.mono (by omega)))
             have HG8 := Hq (show G ≤ w8.heap.size from by have := hb8.size; simp at this; omega)
             clear ho8 hb8 hidx
             go_wp2
             go_roundw
             case rel =>
              refine ⟨i2 + 1, by omega, by go_num, ?_, HB8.out, HG8.out⟩
              rw [HTK.out]
              exact HO8.out
             case measure => simp [RowKit.intOf]; omega
           · obtain rfl : i2 = 8 := by omega
             obtain ⟨A, c7, rfl, hby⟩ := own_bytes HO.out (show ((F.ws.take 8).flatMap wo).length = 4 * 8 from by simp [W8.ws, wo])
             have hconv := hby.conv 125 9 5 Tryz.underlying125 Tryz.underlying5 Tryz.underlying9
             have hw8 : F.ws.take 8 = F.ws := rfl
             rw [hw8, ← HF.out] at hconv
             clear hby hw8
             go_wp2
             go_ret
             exact ⟨rfl, by rw [hH]; exact HB2.out⟩
end Go.Proofs.YtndmjfkmnjejkaaGreatDoor
namespace Go.Proofs.YtndmjfkmnjejkaaGreatDoor
set_option maxRecDepth 100000
set_option maxHeartbeats 2000000
open Go.RowKit Go.Lib
def yc (f : Nat → UInt8) : Array Value := (byteCells ((List.range 64).map f)).toArray
theorem yc_size (f : Nat → UInt8) : (yc f).size = 64 := by simp [yc, byteCells]
theorem yc_get (f : Nat → UInt8) {i : Nat} (h : i < 64) : (yc f)[i]? = some (.int .u8 ((f i).toNat : Int)) := by simp [yc, byteCells, h]
theorem yc_set (f : Nat → UInt8) (i : Nat) (x : UInt8) : (yc f).setIfInBounds i (.int .u8 (x.toNat : Int)) = yc (fun j => if j = i then x else f j) := by
 apply Array.ext_getElem?
 intro j
 rw [Array.getElem?_setIfInBounds]
 rcases Nat.lt_or_ge j 64 with h | h
 · rw [yc_get _ h, yc_get _ h, yc_size]
   by_cases e : i = j
   · subst e; simp [h]
   · rw [if_neg e, if_neg (Ne.symm e)]
 · rw [Array.getElem?_eq_none (by rw [yc_size]; exact h), Array.getElem?_eq_none (by rw [yc_size]; exact h)]
   by_cases e : i = j
   · subst e; simp [yc_size]; omega
   · rw [if_neg e]
def z64b : Array Value := madeCells #[.int .u8 0] 64
theorem yc_zero : yc (fun _ => 0) = z64b := by kernel_rfl
def gd (l : List UInt8) : Nat → UInt8 := fun i => l.getD i 0
theorem yc_copy (l : List UInt8) (h : l.length ≤ 64) : (z64b.toList.take 0 ++ byteCells l ++ z64b.toList.drop (0 + l.length)).toArray = yc (gd l) := by
 unfold gd
 rw [← yc_zero]
 apply Array.ext_getElem?
 intro j
 rw [List.take_zero, List.nil_append, Nat.zero_add, List.getElem?_toArray]
 rcases Nat.lt_or_ge j 64 with hj | hj
 · rw [yc_get _ hj]
   rcases Nat.lt_or_ge j l.length with hl | hl
   · rw [List.getElem?_append_left (by simpa [byteCells] using hl)]
     simp [byteCells, List.getD_eq_getElem?_getD, hl]
   · rw [List.getElem?_append_right (by simpa [byteCells] using hl)]
     have e : l.getD j 0 = 0 := by simp [List.getD_eq_getElem?_getD, List.getElem?_eq_none hl]
     rw [e, List.getElem?_drop, byteCells_length, Nat.add_sub_cancel' hl, Array.getElem?_toList, yc_get _ hj]
 · rw [Array.getElem?_eq_none (by rw [yc_size]; exact hj), List.getElem?_eq_none]
   simp [byteCells, yc_size]; omega
def RowY (w : World) (B : Nat) (f : Nat → UInt8) : Prop := w.heap[B]? = some (.cells (yc f) 239 (0, 0))
theorem RowY.cell {w : World} {B : Nat} {f : Nat → UInt8} (h : RowY w B f) {k : Nat} (hk : k < 64) : w.cell? ⟨B, k, none⟩ = some (.int .u8 ((f k).toNat : Int)) := by
 rw [Lib.cell_of_heap h, yc_get f hk]
theorem RowY.free {w : World} {B : Nat} {f : Nat → UInt8} (h : RowY w B f) (k : Nat) : w.frozen? ⟨B, k, none⟩ = false := Lib.frozen_of_heap h k
theorem RowY.set {w : World} {B : Nat} {f : Nat → UInt8} (h : RowY w B f) (k : Nat) (x : UInt8) : RowY (w.setCell ⟨B, k, none⟩ (.int .u8 (x.toNat : Int))) B (fun j => if j = k then x else f j) := by
 unfold RowY; rw [block_setCell h, yc_set]
theorem RowY.other {w : World} {B C k : Nat} {f : Nat → UInt8} {v : Value} (h : RowY w B f) (hne : B ≠ C) : RowY (w.setCell ⟨C, k, none⟩ v) B f := (heap_setCell_other _ _ _ _ hne).trans h
theorem RowY.lt {w : World} {B : Nat} {f : Nat → UInt8} (h : RowY w B f) : B < w.heap.size := block_lt h
theorem RowY.bytes {w : World} {B : Nat} {f : Nat → UInt8} (h : RowY w B f) : BytesAt w (some ⟨B, 0, none⟩) 64 64 ((List.range 64).map f) := by
 refine ⟨by simp, Nat.le_refl _, by omega, fun _ => ⟨B, 0, rfl, fun k hk => ?_⟩⟩
 rw [Nat.zero_add, h.cell hk]
 simp [byteI, hk]
theorem xor_54_all : ∀ n, n < 256 → bits .xor .u8 ((n : Nat) : Int) 54 = ((UInt8.ofNat n ^^^ 54).toNat : Int) := by decide +kernel
theorem xor_92_all : ∀ n, n < 256 → bits .xor .u8 ((n : Nat) : Int) 92 = ((UInt8.ofNat n ^^^ 92).toNat : Int) := by decide +kernel
theorem xor_54 (x : UInt8) : bits .xor .u8 (x.toNat : Int) 54 = ((x ^^^ 54).toNat : Int) := by
 have := xor_54_all x.toNat x.toNat_lt
 rwa [UInt8.ofNat_toNat] at this
theorem xor_92 (x : UInt8) : bits .xor .u8 (x.toNat : Int) 92 = ((x ^^^ 92).toNat : Int) := by
 have := xor_92_all x.toNat x.toNat_lt
 rwa [UInt8.ofNat_toNat] at this
theorem app_data (a b : ByteArray) : (a ++ b).data.toList = a.data.toList ++ b.data.toList := by simp
theorem RowY.set_off {w : World} {B C k j : Nat} {f : Nat → UInt8} {v u : Value} {g : Nat → UInt8} (h : RowY (w.setCell ⟨B, k, none⟩ v) B g) (h0 : RowY w B f) (hne : B ≠ C) : RowY ((w.setCell ⟨C, j, none⟩ u).setCell ⟨B, k, none⟩ v) B g := by
 have h1 : (w.setCell ⟨C, j, none⟩ u).heap[B]? = w.heap[B]? := heap_setCell_other _ _ _ _ hne
 unfold RowY at h h0 ⊢
 rw [block_setCell (h1.trans h0)]
 rw [block_setCell h0] at h
 exact h
def xk (l : List UInt8) (x : UInt8) (k : Nat) (j : Nat) : UInt8 := if j < k then l.getD j 0 ^^^ x else l.getD j 0
theorem xk_zero (l : List UInt8) (x : UInt8) : xk l x 0 = gd l := by funext j; simp [xk, gd]
theorem xk_step (l : List UInt8) (x : UInt8) (k : Nat) : (fun j => if j = k then xk l x k k ^^^ x else xk l x k j) = xk l x (k + 1) := by
 funext j
 unfold xk
 by_cases e : j = k
 · subst e; simp
 · rw [if_neg e]
   by_cases h : j < k
   · rw [if_pos h, if_pos (by omega)]
   · rw [if_neg h, if_neg (by omega)]
theorem xk_all (l : List UInt8) (x : UInt8) : (List.range 64).map (xk l x 64) = xorL l x := by
 unfold xorL
 apply List.map_congr_left
 intro i hi
 have : i < 64 := by simpa using hi
 simp [xk, this]
theorem copy_run64 (w : World) (g : Nat) (hg : w.heap[g]? = some (.cells z64b 239 (0, 0))) (s : ByteArray) (hs : s.size ≤ 64) (ty : TypeId) :
 (Builtin.copy_ #[125, 9] ty #[.slice (some ⟨g, 0, none⟩) 64 64, .string s]).run Tryz.prog w = .ok (goInt s.size) (w.setRow g (yc (gd s.data.toList))) := by
 rw [← yc_copy s.data.toList (by rw [Array.length_toList]; exact hs)]
 have hl : s.data.toList.length = s.size := Array.length_toList
 rw [hl]
 exact run_copy_row_string _ _ _ _ 5 _ _ _ _ _ _ _ Tryz.underlying125 (by kernel_rfl) hg hs (by unfold z64b; rw [size_madeCells]; show 0 + s.size ≤ 64 * 1; omega)
theorem h_Mac64 (key s : ByteArray) (hk : key.size ≤ 64) (hs : s.size ≤ 100000000) (w : World) : Calls Tryz.prog 222 #[.string key, .string s] w (Ret (.string (bstr (macL key.data.toList s.data.toList))) w) := by
 obtain ⟨l, hl⟩ : ∃ l, key.data.toList = l := ⟨_, rfl⟩
 have hll : l.length = key.size := by rw [← hl]; exact Array.length_toList
 have HR := Hq (show macL l s.data.toList = shaL (xorL l 92 ++ shaL (xorL l 54 ++ s.data.toList)) from by unfold macL; rw [if_neg (by omega)])
 have HCR := Hq (fun W g hg ty => copy_run64 W g hg key hk ty)
 rw [hl] at HCR
 have HS1 := Hq (h_Sum (bstr (xorL l 54) ++ s) (by rw [ByteArray.size_append, bstr_size]; simp [xorL]; omega))
 have HS2 := Hq (h_Sum (bstr (xorL l 92) ++ bstr (shaL (xorL l 54 ++ s.data.toList))) (by rw [ByteArray.size_append, bstr_size, bstr_size, shaL_length]; simp [xorL]))
 have HSS := Hq hs
 rw [hl, HR.out]
 have hlei : decide ((64 : Int) < (key.size : Int)) = false := decide_eq_false (by omega)
 clear hl hll hk hs HR
 go_enter Tryz.func222, Tryz.ntmps222
 go_upto_region 3 with (fail)
 clear hlei
 obtain ⟨P, hP⟩ : ∃ P, w.heap.size = P := ⟨_, rfl⟩
 obtain ⟨w1, hw1⟩ : ∃ W, w.alloc (.cells z64b 239) = W := ⟨_, rfl⟩
 have hs1 : w1.heap.size = P + 1 := by rw [← hw1, ← hP]; simp
 have hz1 : w1.heap[P]? = some (.cells z64b 239 (0, 0)) := by rw [← hw1, ← hP]; exact heap_alloc_new _ _
 have hb1 : Below P w w1 := by rw [← hw1, ← hP]; exact (Below.refl _ _).alloc (Nat.le_refl _) _
 obtain ⟨w2, hw2⟩ : ∃ W, w1.alloc (.cells z64b 239) = W := ⟨_, rfl⟩
 have hz2 : w2.heap[P + 1]? = some (.cells z64b 239 (0, 0)) := by rw [← hw2, ← hs1]; exact heap_alloc_new _ _
 have hb2 : Below w1.heap.size w1 w2 := by rw [← hw2]; exact (Below.refl _ _).alloc (Nat.le_refl _) _
 have HZ1 := Hq ((hb2.block P (by omega)).trans hz1)
 have HZ2 := Hq hz2
 have HB2 := Hq (hb1.trans (hb2.mono (by omega)))
 go_step
 refine Great.wpList_allocTo rfl _ rfl (.pointer (some ⟨P, 0, none⟩)) (.cells z64b 239) (by rw [← hP]; kernel_rfl) ?_
 rw [hw1]
 refine Great.wpList_allocTo rfl _ rfl (.pointer (some ⟨P + 1, 0, none⟩)) (.cells z64b 239) (by rw [← hs1]; kernel_rfl) ?_
 rw [hw2]
 have HP := Hq hP
 clear hw1 hw2 hz1 hz2 hb1 hb2 hs1 hP
 simp only [Act.put, sqA, sqB, sqC]
 go_upto_region 5 with (refine wpList_copy_ran _ rfl (.tmp 13) (.tmp 14) 125 9 rfl _ _ rfl rfl (HCR.out _ P HZ1.out _) ?_)
 go_upto_region 6 with (refine wpList_copy_ran _ rfl (.tmp 16) (.tmp 17) 125 9 rfl _ _ rfl rfl (HCR.out _ (P + 1) ((setRow_other _ _ _ _ (by omega)).trans HZ2.out) _) ?_)
 have hr1 : RowY ((w2.setRow P (yc (gd l))).setRow (P + 1) (yc (gd l))) P (xk l 54 0) := by
  rw [xk_zero]; exact (setRow_other _ _ _ _ (by omega)).trans (setRow_heap _ _ _ _ _ _ HZ1.out)
 have hr2 : RowY ((w2.setRow P (yc (gd l))).setRow (P + 1) (yc (gd l))) (P + 1) (xk l 92 0) := by
  rw [xk_zero]; exact setRow_heap _ _ _ _ _ _ ((setRow_other _ _ _ _ (by omega)).trans HZ2.out)
 have hb3 : Below P w ((w2.setRow P (yc (gd l))).setRow (P + 1) (yc (gd l))) := below_setRow (below_setRow HB2.out (Nat.le_refl _) _) (by omega) _
 obtain ⟨w3, hw3⟩ : ∃ W, (w2.setRow P (yc (gd l))).setRow (P + 1) (yc (gd l)) = W := ⟨_, rfl⟩
 rw [hw3] at hr1 hr2 hb3 ⊢
 have HR1 := Hq hr1
 have HR2 := Hq hr2
 have HB3 := Hq hb3
 clear hw3 hr1 hr2 hb3 HCR HZ1 HZ2 HB2
 simp only [Act.put, sqA, sqB, sqC]
 go_wp2
 go_loopw [19] (fun v wr => ∃ k : Nat, k ≤ 64 ∧ v = .int .i64 k ∧ RowY wr P (xk l 54 k) ∧ RowY wr (P + 1) (xk l 92 k) ∧ Below P w wr) (fun v _ => 64 - (RowKit.intOf v).toNat)
 case atStart => exact ⟨0, by omega, rfl, HR1.out, HR2.out, HB3.out⟩
 case round =>
  obtain ⟨k, hk, rfl, hy1, hy2, hb⟩ := hrel
  have HY1 := Hq hy1
  have HY2 := Hq hy2
  have HB := Hq hb
  clear hy1 hy2 hb HR1 HR2 HB3
  by_cases hlt : k < 64
  · have hki : (k : Int) < 64 := by omega
    have HK := Hq hlt
    have d0 := HY1.out.cell hlt
    have d1 := HY2.out.cell hlt
    have f0 := HY1.out.free k
    have f1 := HY2.out.free k
    obtain ⟨x1, hx1⟩ : ∃ x, xk l 54 k k = x := ⟨_, rfl⟩
    obtain ⟨x2, hx2⟩ : ∃ x, xk l 92 k k = x := ⟨_, rfl⟩
    have HX1 := Hq hx1
    have HX2 := Hq hx2
    rw [hx1] at d0
    rw [hx2] at d1
    clear hx1 hx2 hlt hk
    go_wp2
    rw [xor_54 x1, xor_92 x2]
    have h1 := HY1.out.set k (x1 ^^^ 54)
    have h2 := HY2.out.set k (x2 ^^^ 92)
    rw [← HX1.out, xk_step] at h1
    rw [← HX2.out, xk_step] at h2
    refine ⟨⟨k + 1, by have := HK.out; omega, by go_num, ?_, ?_, ?_⟩, ?_⟩
    · rw [← HX1.out]; exact h1.other (by omega)
    · rw [← HX2.out]
      exact RowY.set_off h2 HY2.out (by omega)
    · exact (HB.out.setCell (p := ⟨P, k, none⟩) (Nat.le_refl P) _).setCell (p := ⟨P + 1, k, none⟩) (show P ≤ P + 1 by omega) _
    · have := HK.out; simp [RowKit.intOf]; omega
  · obtain rfl : k = 64 := by omega
    have hki : ¬ (((64 : Nat) : Int) < 64) := by omega
    have HC1 := Hq (show BytesAt wr (some ⟨P, 0, none⟩) 64 64 (xorL l 54) from by rw [← xk_all]; exact HY1.out.bytes)
    have HC2 := Hq (show BytesAt wr (some ⟨P + 1, 0, none⟩) 64 64 (xorL l 92) from by rw [← xk_all]; exact HY2.out.bytes)
    rw [app_data, bstr_data] at HS1
    rw [app_data, bstr_data, bstr_data] at HS2
    obtain ⟨a1, ha1⟩ : ∃ z, bstr (xorL l 54) = z := ⟨_, rfl⟩
    obtain ⟨a2, ha2⟩ : ∃ z, bstr (xorL l 92) = z := ⟨_, rfl⟩
    obtain ⟨m1, hm1⟩ : ∃ z, bstr (shaL (xorL l 54 ++ s.data.toList)) = z := ⟨_, rfl⟩
    obtain ⟨m2, hm2⟩ : ∃ z, bstr (shaL (xorL l 92 ++ shaL (xorL l 54 ++ s.data.toList))) = z := ⟨_, rfl⟩
    have HA1 := Hq ha1
    have HA2 := Hq ha2
    have HM2 := Hq hm2
    rw [ha1, hm1] at HS1
    rw [ha2, hm1, hm2] at HS2
    have hz1 : ¬ (9223372036854775807 < a1.size + s.size) := by rw [← ha1, bstr_size]; have := HSS.out; simp [xorL]; omega
    have hz2 : ¬ (9223372036854775807 < a2.size + m1.size) := by rw [← ha2, ← hm1, bstr_size, bstr_size, shaL_length]; simp [xorL]
    have HLT := Hq HY2.out.lt
    clear ha1 ha2 hm1 hm2 hk hlt
    go_wp2
    obtain ⟨wd, hwd⟩ : ∃ wd, wr.drew = wd := ⟨_, rfl⟩
    have HD1 := Hq (show BytesAt wd (some ⟨P, 0, none⟩) 64 64 (xorL l 54) from hwd ▸ HC1.out)
    have HD2 := Hq (show BytesAt wd (some ⟨P + 1, 0, none⟩) 64 64 (xorL l 92) from hwd ▸ HC2.out)
    have HBD := Hq (show Below P w wd from hwd ▸ HB.out.drew)
    have HPD := Hq (show P + 1 < wd.heap.size from hwd ▸ HLT.out)
    clear HC1 HC2
    refine wp_region_K 10 (Below (wd).heap.size (wd)) (by kernel_rfl) ?_
    intro hD
    rw [hwd]
    refine rP 0 33 9 rfl hD (Below.refl _ _) ?_; clear hD; intro hD; simp only [Act.put, sqA, sqB, sqC]
    refine wpAnyK_takeSD (i := 1) (d := some 34) (v := (.string a2)) (fuel := 8) rfl (by kernel_rfl) (by kernel_rfl) (by kernel_rfl) (fun _ _ _ h => h) hD (Below.refl _ _) (.inl ⟨by kernel_rfl, ?y12_1b1⟩) ?n12_1b1
    case y12_1b1 =>
     intro w' hS'
     have hcv := ((HD2.out.keptB hS' HPD.out).conv 125 9 5 Tryz.underlying125 Tryz.underlying5 Tryz.underlying9)
     rw [HA2.out] at hcv
     go_simp
    clear hD; intro hD
    simp only [Act.put, sqA, sqB, sqC]
    refine rP 2 35 7 rfl hD (Below.refl _ _) ?_; clear hD; intro hD; simp only [Act.put, sqA, sqB, sqC]
    refine wpAnyK_takeSD (i := 3) (d := some 36) (v := (.string a1)) (fuel := 6) rfl (by kernel_rfl) (by kernel_rfl) (by kernel_rfl) (fun _ _ _ h => h) hD (Below.refl _ _) (.inl ⟨by kernel_rfl, ?y12_3b1⟩) ?n12_3b1
    case y12_3b1 =>
     intro w' hS'
     have hcv := ((HD1.out.keptB hS' (by have := HPD.out; omega)).conv 125 9 5 Tryz.underlying125 Tryz.underlying5 Tryz.underlying9)
     rw [HA1.out] at hcv
     go_simp
    clear hD; intro hD
    simp only [Act.put, sqA, sqB, sqC]
    refine rP 4 37 5 rfl hD (Below.refl _ _) ?_; clear hD; intro hD; simp only [Act.put, sqA, sqB, sqC]
    refine rP 5 38 4 rfl hD (Below.refl _ _) ?_; clear hD; intro hD; simp only [Act.put, sqA, sqB, sqC]
    refine rO 6 3 rfl hD ?_; clear hD; intro K6 hK6
    go_wp2_with fail
    refine (HS1.out _).mono ?_
    rintro ev w4 ⟨rfl, hb⟩
    have HB6 := Hq hb
    clear hb
    go_wp2
    refine hK6 _ _ (by exact HB6.out) ?_; clear hK6; intro hS_12_6 hD
    refine rP 7 40 2 rfl hD hS_12_6 ?_; clear hD; intro hD; simp only [Act.put, sqA, sqB, sqC]
    refine rO 8 1 rfl hD ?_; clear hD; intro K8 hK8
    go_wp2_with fail
    refine (HS2.out _).mono ?_
    rintro ev w5 ⟨rfl, hb⟩
    have HB8 := Hq hb
    clear hb
    go_wp2
    refine hK8 _ _ (by exact Below.trans hS_12_6 (Below.mono HB8.out (Below.size hS_12_6))) ?_; clear hK8; intro hS_12_8 hD
    refine rO 9 0 rfl hD ?_; clear hD; intro K9 hK9
    go_wp2
    refine hK9 _ _ (by exact hS_12_8) ?_; clear hK9; intro hS_12_9 hD
    have HL := Hq hS_12_9
    refine wpAnyK_done (by kernel_rfl) ?_ 0
    clear hD
    go_wp2
    go_ret
    exact ⟨by show Ending.returned (.string m2) = _; rw [HM2.out], by rw [HP.out]; exact HBD.out.trans (HL.out.mono (by have := HPD.out; omega))⟩
theorem h_Mac (key s : ByteArray) (hkk : key.size ≤ 1000000) (hs : s.size ≤ 100000000) (w : World) : Calls Tryz.prog 222 #[.string key, .string s] w (Ret (.string (bstr (macL key.data.toList s.data.toList))) w) := by
 by_cases h64 : key.size ≤ 64
 · exact h_Mac64 key s h64 hs w
 obtain ⟨k2, hk2⟩ : ∃ k, bstr (shaL key.data.toList) = k := ⟨_, rfl⟩
 obtain ⟨l, hl⟩ : ∃ l, k2.data.toList = l := ⟨_, rfl⟩
 have hll : key.data.toList.length = key.size := Array.length_toList
 have hk : k2.size ≤ 64 := by rw [← hk2, bstr_size, shaL_length]; decide
 have hl2 : shaL key.data.toList = l := by rw [← hl, ← hk2, bstr_data]
 have HR := Hq (show macL key.data.toList s.data.toList = shaL (xorL l 92 ++ shaL (xorL l 54 ++ s.data.toList)) from by unfold macL; rw [if_pos (by omega), hl2])
 have HSK := Hq (h_Sum key (by omega))
 rw [hk2] at HSK
 have HCR := Hq (fun W g hg ty => copy_run64 W g hg k2 hk ty)
 rw [hl] at HCR
 have HS1 := Hq (h_Sum (bstr (xorL l 54) ++ s) (by rw [ByteArray.size_append, bstr_size]; simp [xorL]; omega))
 have HS2 := Hq (h_Sum (bstr (xorL l 92) ++ bstr (shaL (xorL l 54 ++ s.data.toList))) (by rw [ByteArray.size_append, bstr_size, bstr_size, shaL_length]; simp [xorL]))
 have HSS := Hq hs
 rw [HR.out]
 have hlei : decide ((64 : Int) < (key.size : Int)) = true := decide_eq_true (by omega)
 clear hl hll hk hs HR hl2 hk2 h64 hkk
 go_enter Tryz.func222, Tryz.ntmps222
 go_wp2_with fail
 refine (HSK.out _).mono ?_
 rintro ev w0 ⟨rfl, hb⟩
 have HW0 := Hq hb
 clear hb
 go_upto_region 3 with (fail)
 clear hlei
 obtain ⟨P, hP⟩ : ∃ P, w0.heap.size = P := ⟨_, rfl⟩
 obtain ⟨w1, hw1⟩ : ∃ W, w0.alloc (.cells z64b 239) = W := ⟨_, rfl⟩
 have hs1 : w1.heap.size = P + 1 := by rw [← hw1, ← hP]; simp
 have hz1 : w1.heap[P]? = some (.cells z64b 239 (0, 0)) := by rw [← hw1, ← hP]; exact heap_alloc_new _ _
 have hb1 : Below P w0 w1 := by rw [← hw1, ← hP]; exact (Below.refl _ _).alloc (Nat.le_refl _) _
 obtain ⟨w2, hw2⟩ : ∃ W, w1.alloc (.cells z64b 239) = W := ⟨_, rfl⟩
 have hz2 : w2.heap[P + 1]? = some (.cells z64b 239 (0, 0)) := by rw [← hw2, ← hs1]; exact heap_alloc_new _ _
 have hb2 : Below w1.heap.size w1 w2 := by rw [← hw2]; exact (Below.refl _ _).alloc (Nat.le_refl _) _
 have HZ1 := Hq ((hb2.block P (by omega)).trans hz1)
 have HZ2 := Hq hz2
 have HB2 := Hq (hb1.trans (hb2.mono (by omega)))
 go_step
 refine Great.wpList_allocTo rfl _ rfl (.pointer (some ⟨P, 0, none⟩)) (.cells z64b 239) (by rw [← hP]; kernel_rfl) ?_
 rw [hw1]
 refine Great.wpList_allocTo rfl _ rfl (.pointer (some ⟨P + 1, 0, none⟩)) (.cells z64b 239) (by rw [← hs1]; kernel_rfl) ?_
 rw [hw2]
 have HP := Hq hP
 clear hw1 hw2 hz1 hz2 hb1 hb2 hs1 hP
 simp only [Act.put, sqA, sqB, sqC]
 go_upto_region 5 with (refine wpList_copy_ran _ rfl (.tmp 13) (.tmp 14) 125 9 rfl _ _ rfl rfl (HCR.out _ P HZ1.out _) ?_)
 go_upto_region 6 with (refine wpList_copy_ran _ rfl (.tmp 16) (.tmp 17) 125 9 rfl _ _ rfl rfl (HCR.out _ (P + 1) ((setRow_other _ _ _ _ (by omega)).trans HZ2.out) _) ?_)
 have hr1 : RowY ((w2.setRow P (yc (gd l))).setRow (P + 1) (yc (gd l))) P (xk l 54 0) := by
  rw [xk_zero]; exact (setRow_other _ _ _ _ (by omega)).trans (setRow_heap _ _ _ _ _ _ HZ1.out)
 have hr2 : RowY ((w2.setRow P (yc (gd l))).setRow (P + 1) (yc (gd l))) (P + 1) (xk l 92 0) := by
  rw [xk_zero]; exact setRow_heap _ _ _ _ _ _ ((setRow_other _ _ _ _ (by omega)).trans HZ2.out)
 have hb3 : Below P w0 ((w2.setRow P (yc (gd l))).setRow (P + 1) (yc (gd l))) := below_setRow (below_setRow HB2.out (Nat.le_refl _) _) (by omega) _
 obtain ⟨w3, hw3⟩ : ∃ W, (w2.setRow P (yc (gd l))).setRow (P + 1) (yc (gd l)) = W := ⟨_, rfl⟩
 rw [hw3] at hr1 hr2 hb3 ⊢
 have HR1 := Hq hr1
 have HR2 := Hq hr2
 have HB3 := Hq hb3
 clear hw3 hr1 hr2 hb3 HCR HZ1 HZ2 HB2
 simp only [Act.put, sqA, sqB, sqC]
 go_wp2
 go_loopw [19] (fun v wr => ∃ k : Nat, k ≤ 64 ∧ v = .int .i64 k ∧ RowY wr P (xk l 54 k) ∧ RowY wr (P + 1) (xk l 92 k) ∧ Below P w0 wr) (fun v _ => 64 - (RowKit.intOf v).toNat)
 case atStart => exact ⟨0, by omega, rfl, HR1.out, HR2.out, HB3.out⟩
 case round =>
  obtain ⟨k, hk, rfl, hy1, hy2, hb⟩ := hrel
  have HY1 := Hq hy1
  have HY2 := Hq hy2
  have HB := Hq hb
  clear hy1 hy2 hb HR1 HR2 HB3
  by_cases hlt : k < 64
  · have hki : (k : Int) < 64 := by omega
    have HK := Hq hlt
    have d0 := HY1.out.cell hlt
    have d1 := HY2.out.cell hlt
    have f0 := HY1.out.free k
    have f1 := HY2.out.free k
    obtain ⟨x1, hx1⟩ : ∃ x, xk l 54 k k = x := ⟨_, rfl⟩
    obtain ⟨x2, hx2⟩ : ∃ x, xk l 92 k k = x := ⟨_, rfl⟩
    have HX1 := Hq hx1
    have HX2 := Hq hx2
    rw [hx1] at d0
    rw [hx2] at d1
    clear hx1 hx2 hlt hk
    go_wp2
    rw [xor_54 x1, xor_92 x2]
    have h1 := HY1.out.set k (x1 ^^^ 54)
    have h2 := HY2.out.set k (x2 ^^^ 92)
    rw [← HX1.out, xk_step] at h1
    rw [← HX2.out, xk_step] at h2
    refine ⟨⟨k + 1, by have := HK.out; omega, by go_num, ?_, ?_, ?_⟩, ?_⟩
    · rw [← HX1.out]; exact h1.other (by omega)
    · rw [← HX2.out]
      exact RowY.set_off h2 HY2.out (by omega)
    · exact (HB.out.setCell (p := ⟨P, k, none⟩) (Nat.le_refl P) _).setCell (p := ⟨P + 1, k, none⟩) (show P ≤ P + 1 by omega) _
    · have := HK.out; simp [RowKit.intOf]; omega
  · obtain rfl : k = 64 := by omega
    have hki : ¬ (((64 : Nat) : Int) < 64) := by omega
    have HC1 := Hq (show BytesAt wr (some ⟨P, 0, none⟩) 64 64 (xorL l 54) from by rw [← xk_all]; exact HY1.out.bytes)
    have HC2 := Hq (show BytesAt wr (some ⟨P + 1, 0, none⟩) 64 64 (xorL l 92) from by rw [← xk_all]; exact HY2.out.bytes)
    rw [app_data, bstr_data] at HS1
    rw [app_data, bstr_data, bstr_data] at HS2
    obtain ⟨a1, ha1⟩ : ∃ z, bstr (xorL l 54) = z := ⟨_, rfl⟩
    obtain ⟨a2, ha2⟩ : ∃ z, bstr (xorL l 92) = z := ⟨_, rfl⟩
    obtain ⟨m1, hm1⟩ : ∃ z, bstr (shaL (xorL l 54 ++ s.data.toList)) = z := ⟨_, rfl⟩
    obtain ⟨m2, hm2⟩ : ∃ z, bstr (shaL (xorL l 92 ++ shaL (xorL l 54 ++ s.data.toList))) = z := ⟨_, rfl⟩
    have HA1 := Hq ha1
    have HA2 := Hq ha2
    have HM2 := Hq hm2
    rw [ha1, hm1] at HS1
    rw [ha2, hm1, hm2] at HS2
    have hz1 : ¬ (9223372036854775807 < a1.size + s.size) := by rw [← ha1, bstr_size]; have := HSS.out; simp [xorL]; omega
    have hz2 : ¬ (9223372036854775807 < a2.size + m1.size) := by rw [← ha2, ← hm1, bstr_size, bstr_size, shaL_length]; simp [xorL]
    have HLT := Hq HY2.out.lt
    clear ha1 ha2 hm1 hm2 hk hlt
    go_wp2
    obtain ⟨wd, hwd⟩ : ∃ wd, wr.drew = wd := ⟨_, rfl⟩
    have HD1 := Hq (show BytesAt wd (some ⟨P, 0, none⟩) 64 64 (xorL l 54) from hwd ▸ HC1.out)
    have HD2 := Hq (show BytesAt wd (some ⟨P + 1, 0, none⟩) 64 64 (xorL l 92) from hwd ▸ HC2.out)
    have HBD := Hq (show Below P w0 wd from hwd ▸ HB.out.drew)
    have HPD := Hq (show P + 1 < wd.heap.size from hwd ▸ HLT.out)
    clear HC1 HC2
    refine wp_region_K 10 (Below (wd).heap.size (wd)) (by kernel_rfl) ?_
    intro hD
    rw [hwd]
    refine rP 0 33 9 rfl hD (Below.refl _ _) ?_; clear hD; intro hD; simp only [Act.put, sqA, sqB, sqC]
    refine wpAnyK_takeSD (i := 1) (d := some 34) (v := (.string a2)) (fuel := 8) rfl (by kernel_rfl) (by kernel_rfl) (by kernel_rfl) (fun _ _ _ h => h) hD (Below.refl _ _) (.inl ⟨by kernel_rfl, ?y12_1b2⟩) ?n12_1b2
    case y12_1b2 =>
     intro w' hS'
     have hcv := ((HD2.out.keptB hS' HPD.out).conv 125 9 5 Tryz.underlying125 Tryz.underlying5 Tryz.underlying9)
     rw [HA2.out] at hcv
     go_simp
    clear hD; intro hD
    simp only [Act.put, sqA, sqB, sqC]
    refine rP 2 35 7 rfl hD (Below.refl _ _) ?_; clear hD; intro hD; simp only [Act.put, sqA, sqB, sqC]
    refine wpAnyK_takeSD (i := 3) (d := some 36) (v := (.string a1)) (fuel := 6) rfl (by kernel_rfl) (by kernel_rfl) (by kernel_rfl) (fun _ _ _ h => h) hD (Below.refl _ _) (.inl ⟨by kernel_rfl, ?y12_3b2⟩) ?n12_3b2
    case y12_3b2 =>
     intro w' hS'
     have hcv := ((HD1.out.keptB hS' (by have := HPD.out; omega)).conv 125 9 5 Tryz.underlying125 Tryz.underlying5 Tryz.underlying9)
     rw [HA1.out] at hcv
     go_simp
    clear hD; intro hD
    simp only [Act.put, sqA, sqB, sqC]
    refine rP 4 37 5 rfl hD (Below.refl _ _) ?_; clear hD; intro hD; simp only [Act.put, sqA, sqB, sqC]
    refine rP 5 38 4 rfl hD (Below.refl _ _) ?_; clear hD; intro hD; simp only [Act.put, sqA, sqB, sqC]
    refine rO 6 3 rfl hD ?_; clear hD; intro K6 hK6
    go_wp2_with fail
    refine (HS1.out _).mono ?_
    rintro ev w4 ⟨rfl, hb⟩
    have HB6 := Hq hb
    clear hb
    go_wp2
    refine hK6 _ _ (by exact HB6.out) ?_; clear hK6; intro hS_12_6 hD
    refine rP 7 40 2 rfl hD hS_12_6 ?_; clear hD; intro hD; simp only [Act.put, sqA, sqB, sqC]
    refine rO 8 1 rfl hD ?_; clear hD; intro K8 hK8
    go_wp2_with fail
    refine (HS2.out _).mono ?_
    rintro ev w5 ⟨rfl, hb⟩
    have HB8 := Hq hb
    clear hb
    go_wp2
    refine hK8 _ _ (by exact Below.trans hS_12_6 (Below.mono HB8.out (Below.size hS_12_6))) ?_; clear hK8; intro hS_12_8 hD
    refine rO 9 0 rfl hD ?_; clear hD; intro K9 hK9
    go_wp2
    refine hK9 _ _ (by exact hS_12_8) ?_; clear hK9; intro hS_12_9 hD
    have HL := Hq hS_12_9
    refine wpAnyK_done (by kernel_rfl) ?_ 0
    clear hD
    go_wp2
    go_ret
    exact ⟨by show Ending.returned (.string m2) = _; rw [HM2.out], by exact HW0.out.trans (by have h := HBD.out.trans (HL.out.mono (by have := HPD.out; omega)); rw [← HP.out] at h; exact h.mono HW0.out.size)⟩
end Go.Proofs.YtndmjfkmnjejkaaGreatDoor
namespace Go.Proofs.YtndmjfkmnjejkaaGreatDoor
set_option maxRecDepth 100000
set_option maxHeartbeats 2000000
open Go.RowKit Go.Lib
theorem word_info : (Tryz.prog.info? 216).map (fun i => (i.zero, i.size, i.bytes)) = some (some (.int .u32 0), 1, 4) := by kernel_rfl
theorem make_words (n : Nat) (hn : n ≤ 1000000) (w : World) : (Instr.makeSlice 173 (.int .i64 n) (.int .i64 n)).run Tryz.prog w = .ok (.slice (some ⟨w.heap.size, 0, none⟩) n n) (w.alloc (.cells (madeCells #[.int .u32 0] n) 216)) := by
 obtain ⟨i0, hi, hz0, hz1, hz2⟩ := info_parts word_info
 have h := run_make (P := Tryz.prog) w 173 216 i0 (.int .u32 0) Tryz.underlying173 hi hz0 .i64 .i64 (n : Int) (n : Int) (by omega) (Int.le_refl _) (by rw [hz2]; omega) (by omega)
 rw [h, hz1, Int.toNat_natCast, Nat.mul_one]
 rfl
theorem index_byte_run {op : Oper} {ρ : Operand → Value} {w : World} (x i : Operand) (ho : op.op = .index 9 x i) (s : ByteArray) (p : Nat) (hx : ρ x = .string s) (hi : ρ i = .int .i64 (p : Int)) (hp : p < s.size) {v : Nat} (hv : (s.data.toList.getD p 0).toNat = v) :
 (execOp ρ op).run Tryz.prog w = .ok (.value (.int .u8 (v : Int))) w := by
 subst hv
 have h1 : s[p]? = some s[p] := by simp [hp]
 have h2 : s.data.toList.getD p 0 = s[p] := data_getD s p hp
 rw [h2]
 unfold execOp
 simp [ho, hx, hi, Instr.index, asIntOf, run_underlying Tryz.underlying9, h1, Result.andThen]
theorem sched_val2 (X16 X15 X7 X2 : BitVec 32) : (((wi X16 + bits .xor .u32 (bits .xor .u32 (wi (rr X15 7)) (wi (rr X15 18))) (wi X15 / 8)) % 4294967296 + wi X7) % 4294967296 + bits .xor .u32 (bits .xor .u32 (wi (rr X2 17)) (wi (rr X2 19))) (wi X2 / 1024)) % 4294967296 = wi (X16 + sg0 X15 + X7 + sg1 X2) := by
 rw [show (8 : Int) = 2 ^ 3 from rfl, show (1024 : Int) = 2 ^ 10 from rfl, wi_div, wi_div, wi_xor, wi_xor, wi_xor, wi_xor, mod_val, mod_val, mod_val]
 rfl
def pb (m : List UInt8) (i : Nat) : Nat → Nat
 | 0 => 0
 | q + 1 => pb m i q * 256 + (m.getD (4 * i + q) 0).toNat
theorem pb_four (m : List UInt8) (i : Nat) : BitVec.ofNat 32 (pb m i 4) = wd m i := by simp [pb, wd]
theorem step_val (p b : Nat) : (wi (BitVec.ofNat 32 p) * 256 % 4294967296 + (b : Int)) % 4294967296 = wi (BitVec.ofNat 32 (p * 256 + b)) := by
 unfold wi
 rw [BitVec.toNat_ofNat, BitVec.toNat_ofNat]
 omega
def wq (m : List UInt8) (i q : Nat) (j : Nat) : BitVec 32 := if j = i then BitVec.ofNat 32 (pb m i q) else wz m i j
theorem wq_zero (m : List UInt8) (i : Nat) : wq m i 0 = wz m i := by
 funext j
 unfold wq wz
 by_cases h : j = i
 · subst h; rw [if_pos rfl, if_neg (Nat.lt_irrefl _)]; rfl
 · rw [if_neg h]
theorem wq_four (m : List UInt8) (i : Nat) (h : i < 16) : wq m i 4 = wz m (i + 1) := by
 funext j
 unfold wq wz
 by_cases e : j = i
 · subst e; rw [if_pos rfl, if_pos (Nat.lt_succ_self _), pb_four, wv_low m h]
 · rw [if_neg e]
   by_cases h2 : j < i
   · rw [if_pos h2, if_pos (by omega)]
   · rw [if_neg h2, if_neg (by omega)]
theorem r05_schedule (s : ByteArray) (hs : s.size = 64) (w : World) : Calls Tryz.prog 239 #[.string s] w fun e w' => e = .returned (.slice (some ⟨w.heap.size, 0, none⟩) 64 64) ∧ RowW w' w.heap.size 64 216 (wv s.data.toList) ∧ Below w.heap.size w w' := by
 obtain ⟨m, hm⟩ : ∃ m, s.data.toList = m := ⟨_, rfl⟩
 have HM := Hq hm
 rw [hm]
 clear hm
 have hmk : (Instr.makeSlice 173 (.int .i64 64) (.int .i64 64)).run Tryz.prog w = .ok (.slice (some ⟨w.heap.size, 0, none⟩) 64 64) (w.alloc (.cells (madeCells #[.int .u32 0] 64) 216)) := make_words 64 (by decide) w
 obtain ⟨w1, hw1⟩ : ∃ w1, w.alloc (.cells (madeCells #[.int .u32 0] 64) 216) = w1 := ⟨_, rfl⟩
 have HR1 := Hq (show RowW w1 w.heap.size 64 216 (wz m 0) from by
  rw [show wz m 0 = fun _ => 0 from funext fun j => rfl]; unfold RowW; rw [wa_zero, ← hw1]; exact heap_alloc_new _ _)
 have HB1 := Hq (show Below w.heap.size w w1 from hw1 ▸ (Below.refl _ _).alloc (Nat.le_refl _) _)
 rw [hw1] at hmk
 clear hw1
 obtain ⟨H, hH⟩ : ∃ H, w.heap.size = H := ⟨_, rfl⟩
 rw [hH] at HR1 HB1 hmk ⊢
 go_enter Tryz.func239, Tryz.ntmps239
 go_wp2
 clear hmk
 go_loopw [4] (fun i wr => ∃ k : Nat, k ≤ 16 ∧ i = .int .i64 k ∧ RowW wr H 64 216 (wz m k) ∧ Below H w wr) (fun i _ => 16 - (RowKit.intOf i).toNat)
 case atStart => exact ⟨0, Nat.zero_le _, rfl, HR1.out, HB1.out⟩
 case round =>
  obtain ⟨k, hk, rfl, hR, hBR⟩ := hrel
  have HR := Hq hR
  have HB := Hq hBR
  clear hR hBR
  by_cases hlt : k < 16
  · have hlti : (k : Int) < 16 := by omega
    have hk64 : (k : Int) < 64 := by omega
    go_wp2
    go_loopw [5] (fun i wr => ∃ q : Nat, q ≤ 4 ∧ i = .int .i64 q ∧ RowW wr H 64 216 (wq m k q) ∧ Below H w wr) (fun i _ => 4 - (RowKit.intOf i).toNat)
    case atStart => exact ⟨0, Nat.zero_le _, rfl, by rw [wq_zero]; exact HR.out, HB.out⟩
    case round =>
     obtain ⟨q, hq, rfl, hR, hBR⟩ := hrel
     have HR := Hq hR
     have HB := Hq hBR
     clear hR hBR
     by_cases hq4 : q < 4
     · have hq4i : (q : Int) < 4 := by omega
       have c0 := HR.out.drew.cell (show k < 64 by omega)
       have hf := HR.out.drew.free k
       rw [show wq m k q k = BitVec.ofNat 32 (pb m k q) from by unfold wq; rw [if_pos rfl]] at c0
       obtain ⟨y, hy⟩ : ∃ y, BitVec.ofNat 32 (pb m k q) = y := ⟨_, rfl⟩
       rw [hy] at c0
       have HY := Hq hy
       clear hy
       obtain ⟨p, hp⟩ : ∃ p, 4 * k + q = p := ⟨_, rfl⟩
       have hpi : 4 * (k : Int) + (q : Int) = (p : Int) := by omega
       have hp64 : (p : Int) < 64 := by omega
       have hwa : IntKind.i64.wrap (4 * (k : Int)) = 4 * (k : Int) := by rw [IntKind.wrap_i64]; omega
       have hwb : IntKind.i64.wrap (p : Int) = (p : Int) := by rw [IntKind.wrap_i64]; omega
       have HPS := Hq (show p < s.size from by omega)
       obtain ⟨x, hx⟩ : ∃ x, (m.getD p 0).toNat = x := ⟨_, rfl⟩
       have hx255 : x ≤ 255 := by rw [← hx]; have := (m.getD p 0).toNat_lt; omega
       have HXX := Hq hx
       have HP := Hq hp
       clear hx hp
       obtain ⟨wd, hwd⟩ : ∃ wd, wr.drew = wd := ⟨_, rfl⟩
       rw [hwd] at c0 hf
       go_wp2
       refine wp_region_K 16 (Eq wd) (by kernel_rfl) ?_
       intro hD
       rw [hwd]
       refine wpAnyK_pureD (i := 0) (d := some 20) (v := ?v8_0b1) (fuel := 16) rfl (by kernel_rfl) (by kernel_rfl) (fun _ _ _ h => h) hD rfl (.inl ⟨by kernel_rfl, ?y8_0b1⟩) ?n8_0b1
       case y8_0b1 => intro w' _; go_simp; with_reducible rfl
       clear hD; intro hD
       simp only [Act.put, sqA, sqB, sqC]
       refine wpAnyK_pureD (i := 1) (d := some 21) (v := ?v8_1b1) (fuel := 15) rfl (by kernel_rfl) (by kernel_rfl) (fun _ _ _ h => h) hD rfl (.inl ⟨by kernel_rfl, ?y8_1b1⟩) ?n8_1b1
       case y8_1b1 => intro w' _; go_simp; with_reducible rfl
       clear hD; intro hD
       simp only [Act.put, sqA, sqB, sqC]
       refine wpAnyK_pureD (i := 2) (d := some 22) (v := ?v8_2b1) (fuel := 14) rfl (by kernel_rfl) (by kernel_rfl) (fun _ _ _ h => h) hD rfl (.inl ⟨by kernel_rfl, ?y8_2b1⟩) ?n8_2b1
       case y8_2b1 => intro w' _; go_simp; with_reducible rfl
       clear hD; intro hD
       simp only [Act.put, sqA, sqB, sqC]
       refine wpAnyK_pureD (i := 3) (d := some 23) (v := ?v8_3b1) (fuel := 13) rfl (by kernel_rfl) (by kernel_rfl) (fun _ _ _ h => h) hD rfl (.inl ⟨by kernel_rfl, ?y8_3b1⟩) ?n8_3b1
       case y8_3b1 => intro w' _; go_simp; with_reducible rfl
       clear hD; intro hD
       simp only [Act.put, sqA, sqB, sqC]
       refine wpAnyK_pureD (i := 4) (d := some 24) (v := ?v8_4b1) (fuel := 12) rfl (by kernel_rfl) (by kernel_rfl) (fun _ _ _ h => h) hD rfl (.inl ⟨by kernel_rfl, ?y8_4b1⟩) ?n8_4b1
       case y8_4b1 => intro w' _; go_simp; with_reducible rfl
       clear hD; intro hD
       simp only [Act.put, sqA, sqB, sqC]
       refine wpAnyK_takeD (i := 5) (d := some 25) (v := ?v8_5b1) (fuel := 11) rfl (by kernel_rfl) (by kernel_rfl) (by kernel_rfl) (fun _ _ _ h => h) hD rfl (.inl ⟨by kernel_rfl, ?y8_5b1⟩) ?n8_5b1
       case y8_5b1 => intro w' hS'; have e0 := (hS' ▸ c0); go_simp; with_reducible rfl
       clear hD; intro hD
       simp only [Act.put, sqA, sqB, sqC]
       refine wpAnyK_pureD (i := 6) (d := some 26) (v := ?v8_6b1) (fuel := 10) rfl (by kernel_rfl) (by kernel_rfl) (fun _ _ _ h => h) hD rfl (.inl ⟨by kernel_rfl, ?y8_6b1⟩) ?n8_6b1
       case y8_6b1 => intro w' _; go_simp; with_reducible rfl
       clear hD; intro hD
       simp only [Act.put, sqA, sqB, sqC]
       refine wpAnyK_pureD (i := 7) (d := some 27) (v := ?v8_7b1) (fuel := 9) rfl (by kernel_rfl) (by kernel_rfl) (fun _ _ _ h => h) hD rfl (.inl ⟨by kernel_rfl, ?y8_7b1⟩) ?n8_7b1
       case y8_7b1 => intro w' _; go_simp; with_reducible rfl
       clear hD; intro hD
       simp only [Act.put, sqA, sqB, sqC]
       refine wpAnyK_pureD (i := 8) (d := some 28) (v := ?v8_8b1) (fuel := 8) rfl (by kernel_rfl) (by kernel_rfl) (fun _ _ _ h => h) hD rfl (.inl ⟨by kernel_rfl, ?y8_8b1⟩) ?n8_8b1
       case y8_8b1 => intro w' _; go_simp; with_reducible rfl
       clear hD; intro hD
       simp only [Act.put, sqA, sqB, sqC]
       refine wpAnyK_pureD (i := 9) (d := some 29) (v := ?v8_9b1) (fuel := 7) rfl (by kernel_rfl) (by kernel_rfl) (fun _ _ _ h => h) hD rfl (.inl ⟨by kernel_rfl, ?y8_9b1⟩) ?n8_9b1
       case y8_9b1 => intro w' _; go_simp; with_reducible rfl
       clear hD; intro hD
       simp only [Act.put, sqA, sqB, sqC]
       refine wpAnyK_pureD (i := 10) (d := some 30) (v := ?v8_10b1) (fuel := 6) rfl (by kernel_rfl) (by kernel_rfl) (fun _ _ _ h => h) hD rfl (.inl ⟨by kernel_rfl, ?y8_10b1⟩) ?n8_10b1
       case y8_10b1 => intro w' _; go_simp; with_reducible rfl
       clear hD; intro hD
       simp only [Act.put, sqA, sqB, sqC]
       refine wpAnyK_pureD (i := 11) (d := some 31) (v := ?v8_11b1) (fuel := 5) rfl (by kernel_rfl) (by kernel_rfl) (fun _ _ _ h => h) hD rfl (.inl ⟨by kernel_rfl, ?y8_11b1⟩) ?n8_11b1
       case y8_11b1 => intro w' _; go_simp; with_reducible rfl
       clear hD; intro hD
       simp only [Act.put, sqA, sqB, sqC]
       refine wpAnyK_takeD (i := 12) (d := some 32) (v := (.int .u8 (x : Int))) (fuel := 4) rfl (by kernel_rfl) (by kernel_rfl) (by kernel_rfl) (fun _ _ _ h => h) hD rfl (.inl ⟨by kernel_rfl, ?y8_12b1⟩) ?n8_12b1
       case y8_12b1 =>
        intro w' hS'
        exact index_byte_run (.tmp 27) (.tmp 31) rfl s p rfl rfl HPS.out (by rw [HM.out]; exact HXX.out)
       clear hD; intro hD
       simp only [Act.put, sqA, sqB, sqC]
       refine wpAnyK_pureD (i := 13) (d := some 33) (v := ?v8_13b1) (fuel := 3) rfl (by kernel_rfl) (by kernel_rfl) (fun _ _ _ h => h) hD rfl (.inl ⟨by kernel_rfl, ?y8_13b1⟩) ?n8_13b1
       case y8_13b1 => intro w' _; go_simp; with_reducible rfl
       clear hD; intro hD
       simp only [Act.put, sqA, sqB, sqC]
       refine wpAnyK_pureD (i := 14) (d := some 34) (v := ?v8_14b1) (fuel := 2) rfl (by kernel_rfl) (by kernel_rfl) (fun _ _ _ h => h) hD rfl (.inl ⟨by kernel_rfl, ?y8_14b1⟩) ?n8_14b1
       case y8_14b1 => intro w' _; go_simp; with_reducible rfl
       clear hD; intro hD
       simp only [Act.put, sqA, sqB, sqC]
       refine wpAnyK_pureD (i := 15) (d := some 35) (v := ?v8_15b1) (fuel := 1) rfl (by kernel_rfl) (by kernel_rfl) (fun _ _ _ h => h) hD rfl (.inl ⟨by kernel_rfl, ?y8_15b1⟩) ?n8_15b1
       case y8_15b1 => intro w' _; go_simp; with_reducible rfl
       clear hD; intro hD
       simp only [Act.put, sqA, sqB, sqC]
       refine wpAnyK_oneT (i := 16) (fuel := 0) (by kernel_rfl) rfl hD (by kernel_rfl) ?_; clear hD; intro K16 hK16
       go_wp2
       refine hK16 _ _ ?_; clear hK16; intro hD
       refine wpAnyK_done (by kernel_rfl) ?_ 0
       clear hD
       rw [← HY.out, step_val]
       obtain ⟨V, hV⟩ : ∃ V, BitVec.ofNat 32 (pb m k q * 256 + x) = V := ⟨_, rfl⟩
       have HV := Hq hV
       rw [hV, HY.out]
       clear hV
       go_wp2
       go_roundw
       case rel =>
        refine ⟨q + 1, by omega, by go_num, ?_, ?_⟩
        · rw [← hwd]
          refine (HR.out.drew.set k V).congr fun j hj => ?_
          unfold wq
          by_cases e : j = k
          · rw [if_pos e, if_pos e, ← HV.out, ← HXX.out, ← HP.out]; rfl
          · rw [if_neg e, if_neg e, if_neg e]
        · rw [← hwd]; exact HB.out.drew.setCell (Nat.le_refl _) _
       case measure => simp [RowKit.intOf]; omega
     · have HQ := Hq (show q = 4 from by omega)
       have hq4i : ¬ ((q : Int) < 4) := by omega
       have HR2 := Hq (show RowW wr H 64 216 (wz m (k + 1)) from by rw [← wq_four m k hlt, ← HQ.out]; exact HR.out)
       clear hq hq4 HQ HR
       go_wp2
       go_roundw
       case rel => exact ⟨k + 1, by omega, by go_num, HR2.out, HB.out⟩
       case measure => simp [RowKit.intOf]; omega
  · have HK := Hq (show k = 16 from by omega)
    have hge : ¬ ((k : Int) < 16) := by omega
    have HR2 := Hq (show RowW wr H 64 216 (wz m 16) from by rw [← HK.out]; exact HR.out)
    clear hk hlt HK HR
    go_wp2
    go_loopw [6] (fun i wr => ∃ k : Nat, 16 ≤ k ∧ k ≤ 64 ∧ i = .int .i64 k ∧ RowW wr H 64 216 (wz m k) ∧ Below H w wr) (fun i _ => 64 - (RowKit.intOf i).toNat)
    case atStart => exact ⟨16, Nat.le_refl _, by omega, rfl, HR2.out, HB.out⟩
    case round =>
     obtain ⟨k, hk0, hk, rfl, hR, hBR⟩ := hrel
     have HR := Hq hR
     have HB := Hq hBR
     clear hR hBR
     by_cases hlt : k < 64
     · have hlti : (k : Int) < 64 := by omega
       obtain ⟨q15, hq15⟩ : ∃ q, k - 15 = q := ⟨_, rfl⟩
       obtain ⟨q2, hq2⟩ : ∃ q, k - 2 = q := ⟨_, rfl⟩
       obtain ⟨q16, hq16⟩ : ∃ q, k - 16 = q := ⟨_, rfl⟩
       obtain ⟨q7, hq7⟩ : ∃ q, k - 7 = q := ⟨_, rfl⟩
       have i15 : (k : Int) - 15 = (q15 : Int) := by omega
       have i2 : (k : Int) - 2 = (q2 : Int) := by omega
       have i16 : (k : Int) - 16 = (q16 : Int) := by omega
       have i7 : (k : Int) - 7 = (q7 : Int) := by omega
       have l15 : (q15 : Int) < 64 := by omega
       have l2 : (q2 : Int) < 64 := by omega
       have l16 : (q16 : Int) < 64 := by omega
       have l7 : (q7 : Int) < 64 := by omega
       have v15 : IntKind.i64.wrap (q15 : Int) = (q15 : Int) := by rw [IntKind.wrap_i64]; omega
       have v2 : IntKind.i64.wrap (q2 : Int) = (q2 : Int) := by rw [IntKind.wrap_i64]; omega
       have v16 : IntKind.i64.wrap (q16 : Int) = (q16 : Int) := by rw [IntKind.wrap_i64]; omega
       have v7 : IntKind.i64.wrap (q7 : Int) = (q7 : Int) := by rw [IntKind.wrap_i64]; omega
       have HV := Hq (show wv m k = wz m k q16 + sg0 (wz m k q15) + wz m k q7 + sg1 (wz m k q2) from by
        unfold wz; rw [if_pos (by omega), if_pos (by omega), if_pos (by omega), if_pos (by omega), wv_high m hk0, hq15, hq2, hq16, hq7])
       have c15 := HR.out.drew.cell (show q15 < 64 by omega)
       have c2 := HR.out.drew.cell (show q2 < 64 by omega)
       have L16 := Hq (show q16 < 64 from by omega)
       have L7 := Hq (show q7 < 64 from by omega)
       obtain ⟨X15, hX15⟩ : ∃ X, wz m k q15 = X := ⟨_, rfl⟩
       obtain ⟨X2, hX2⟩ : ∃ X, wz m k q2 = X := ⟨_, rfl⟩
       obtain ⟨X16, hX16⟩ : ∃ X, wz m k q16 = X := ⟨_, rfl⟩
       obtain ⟨X7, hX7⟩ : ∃ X, wz m k q7 = X := ⟨_, rfl⟩
       rw [hX15, hX2, hX16, hX7] at HV
       rw [hX15] at c15
       rw [hX2] at c2
       have HX16 := Hq hX16
       have HX7 := Hq hX7
       clear hX15 hX2 hX16 hX7 hq15 hq2 hq16 hq7
       obtain ⟨wd, hwd⟩ : ∃ wd, wr.drew = wd := ⟨_, rfl⟩
       have HRD := Hq (show RowW wd H 64 216 (wz m k) from by rw [← hwd]; exact HR.out.drew)
       have HBD := Hq (show Below H w wd from by rw [← hwd]; exact HB.out.drew)
       rw [hwd] at c15 c2
       go_wp2
       refine wp_region_K 12 (Eq wd) (by kernel_rfl) ?_
       intro hD
       rw [hwd]
       refine rP 0 40 11 rfl hD rfl ?_; clear hD; intro hD; simp only [Act.put, sqA, sqB, sqC]
       refine rP 1 41 10 rfl hD rfl ?_; clear hD; intro hD; simp only [Act.put, sqA, sqB, sqC]
       refine rP 2 42 9 rfl hD rfl ?_; clear hD; intro hD; simp only [Act.put, sqA, sqB, sqC]
       refine rP 3 43 8 rfl hD rfl ?_; clear hD; intro hD; simp only [Act.put, sqA, sqB, sqC]
       refine rT 4 44 7 rfl hD rfl (by intro w' hS'; have e0 := (hS' ▸ c15); have e1 := (hS' ▸ c2); go_simp; with_reducible rfl) ?_; clear hD; intro hD; simp only [Act.put, sqA, sqB, sqC]
       refine rP 5 45 6 rfl hD rfl ?_; clear hD; intro hD; simp only [Act.put, sqA, sqB, sqC]
       refine rP 6 46 5 rfl hD rfl ?_; clear hD; intro hD; simp only [Act.put, sqA, sqB, sqC]
       refine rP 7 47 4 rfl hD rfl ?_; clear hD; intro hD; simp only [Act.put, sqA, sqB, sqC]
       refine rP 8 48 3 rfl hD rfl ?_; clear hD; intro hD; simp only [Act.put, sqA, sqB, sqC]
       refine rT 9 49 2 rfl hD rfl (by intro w' hS'; have e0 := (hS' ▸ c15); have e1 := (hS' ▸ c2); go_simp; with_reducible rfl) ?_; clear hD; intro hD; simp only [Act.put, sqA, sqB, sqC]
       refine rO 10 1 rfl hD ?_; clear hD; intro K10 hK10
       go_wp2
       refine hK10 _ _ (by rfl) ?_; clear hK10; intro hS_12_10 hD
       refine rO 11 0 rfl hD ?_; clear hD; intro K11 hK11
       go_wp2
       refine hK11 _ _ (by rfl) ?_; clear hK11; intro hS_12_11 hD
       refine wpAnyK_done (by kernel_rfl) ?_ 0
       clear hD
       clear c15 c2 hwd
       go_wp2_with fail
       refine (r05_right X15 7 (by decide) (by decide) _).mono ?_
       rintro e' w1 ⟨rfl, hb1⟩
       go_wp2_with fail
       refine (r05_right X15 18 (by decide) (by decide) _).mono ?_
       rintro e' w2 ⟨rfl, hb2⟩
       go_wp2_with fail
       refine (r05_right X2 17 (by decide) (by decide) _).mono ?_
       rintro e' w3 ⟨rfl, hb3⟩
       go_wp2_with fail
       refine (r05_right X2 19 (by decide) (by decide) _).mono ?_
       rintro e' w4 ⟨rfl, hb4⟩
       have HB4 := Hq (show Below wd.heap.size wd w4 from ((hb1.trans (hb2.mono hb1.size)).trans (hb3.mono (by have := hb1.size; have := hb2.size; omega))).trans (hb4.mono (by have := hb1.size; have := hb2.size; have := hb3.size; omega)))
       clear hb1 hb2 hb3 hb4
       have HR4 := Hq (HRD.out.kept HB4.out HRD.out.lt)
       have HBB := Hq (HBD.out.trans (HB4.out.mono (by have := HRD.out.lt; omega)))
       have c16 := HR4.out.drew.cell L16.out
       have c7 := HR4.out.drew.cell L7.out
       have hf := HR4.out.drew.free k
       have hcw := HR4.out.drew.cell (show k < 64 by omega)
       rw [HX16.out] at c16
       rw [HX7.out] at c7
       obtain ⟨we, hwe⟩ : ∃ we, w4.drew = we := ⟨_, rfl⟩
       rw [hwe] at c16 c7 hf hcw
       go_wp2
       refine wp_region_K 18 (Eq we) (by kernel_rfl) ?_
       intro hD
       rw [hwe]
       refine wpAnyK_pureD (i := 0) (d := some 66) (v := ?v15_0b3) (fuel := 18) rfl (by kernel_rfl) (by kernel_rfl) (fun _ _ _ h => h) hD rfl (.inl ⟨by kernel_rfl, ?y15_0b3⟩) ?n15_0b3
       case y15_0b3 => intro w' _; go_simp; with_reducible rfl
       clear hD; intro hD
       simp only [Act.put, sqA, sqB, sqC]
       refine wpAnyK_pureD (i := 1) (d := some 67) (v := ?v15_1b3) (fuel := 17) rfl (by kernel_rfl) (by kernel_rfl) (fun _ _ _ h => h) hD rfl (.inl ⟨by kernel_rfl, ?y15_1b3⟩) ?n15_1b3
       case y15_1b3 => intro w' _; go_simp; with_reducible rfl
       clear hD; intro hD
       simp only [Act.put, sqA, sqB, sqC]
       refine wpAnyK_pureD (i := 2) (d := some 68) (v := ?v15_2b3) (fuel := 16) rfl (by kernel_rfl) (by kernel_rfl) (fun _ _ _ h => h) hD rfl (.inl ⟨by kernel_rfl, ?y15_2b3⟩) ?n15_2b3
       case y15_2b3 => intro w' _; go_simp; with_reducible rfl
       clear hD; intro hD
       simp only [Act.put, sqA, sqB, sqC]
       refine wpAnyK_pureD (i := 3) (d := some 69) (v := ?v15_3b3) (fuel := 15) rfl (by kernel_rfl) (by kernel_rfl) (fun _ _ _ h => h) hD rfl (.inl ⟨by kernel_rfl, ?y15_3b3⟩) ?n15_3b3
       case y15_3b3 => intro w' _; go_simp; with_reducible rfl
       clear hD; intro hD
       simp only [Act.put, sqA, sqB, sqC]
       refine wpAnyK_pureD (i := 4) (d := some 70) (v := ?v15_4b3) (fuel := 14) rfl (by kernel_rfl) (by kernel_rfl) (fun _ _ _ h => h) hD rfl (.inl ⟨by kernel_rfl, ?y15_4b3⟩) ?n15_4b3
       case y15_4b3 => intro w' _; go_simp; with_reducible rfl
       clear hD; intro hD
       simp only [Act.put, sqA, sqB, sqC]
       refine wpAnyK_pureD (i := 5) (d := some 71) (v := ?v15_5b3) (fuel := 13) rfl (by kernel_rfl) (by kernel_rfl) (fun _ _ _ h => h) hD rfl (.inl ⟨by kernel_rfl, ?y15_5b3⟩) ?n15_5b3
       case y15_5b3 => intro w' _; go_simp; with_reducible rfl
       clear hD; intro hD
       simp only [Act.put, sqA, sqB, sqC]
       refine wpAnyK_takeD (i := 6) (d := some 72) (v := ?v15_6b3) (fuel := 12) rfl (by kernel_rfl) (by kernel_rfl) (by kernel_rfl) (fun _ _ _ h => h) hD rfl (.inl ⟨by kernel_rfl, ?y15_6b3⟩) ?n15_6b3
       case y15_6b3 => intro w' hS'; have e0 := (hS' ▸ c16); have e1 := (hS' ▸ c7); go_simp; with_reducible rfl
       clear hD; intro hD
       simp only [Act.put, sqA, sqB, sqC]
       refine wpAnyK_pureD (i := 7) (d := some 73) (v := ?v15_7b3) (fuel := 11) rfl (by kernel_rfl) (by kernel_rfl) (fun _ _ _ h => h) hD rfl (.inl ⟨by kernel_rfl, ?y15_7b3⟩) ?n15_7b3
       case y15_7b3 => intro w' _; go_simp; with_reducible rfl
       clear hD; intro hD
       simp only [Act.put, sqA, sqB, sqC]
       refine wpAnyK_pureD (i := 8) (d := some 74) (v := ?v15_8b3) (fuel := 10) rfl (by kernel_rfl) (by kernel_rfl) (fun _ _ _ h => h) hD rfl (.inl ⟨by kernel_rfl, ?y15_8b3⟩) ?n15_8b3
       case y15_8b3 => intro w' _; go_simp; with_reducible rfl
       clear hD; intro hD
       simp only [Act.put, sqA, sqB, sqC]
       refine wpAnyK_pureD (i := 9) (d := some 75) (v := ?v15_9b3) (fuel := 9) rfl (by kernel_rfl) (by kernel_rfl) (fun _ _ _ h => h) hD rfl (.inl ⟨by kernel_rfl, ?y15_9b3⟩) ?n15_9b3
       case y15_9b3 => intro w' _; go_simp; with_reducible rfl
       clear hD; intro hD
       simp only [Act.put, sqA, sqB, sqC]
       refine wpAnyK_pureD (i := 10) (d := some 76) (v := ?v15_10b3) (fuel := 8) rfl (by kernel_rfl) (by kernel_rfl) (fun _ _ _ h => h) hD rfl (.inl ⟨by kernel_rfl, ?y15_10b3⟩) ?n15_10b3
       case y15_10b3 => intro w' _; go_simp; with_reducible rfl
       clear hD; intro hD
       simp only [Act.put, sqA, sqB, sqC]
       refine wpAnyK_pureD (i := 11) (d := some 77) (v := ?v15_11b3) (fuel := 7) rfl (by kernel_rfl) (by kernel_rfl) (fun _ _ _ h => h) hD rfl (.inl ⟨by kernel_rfl, ?y15_11b3⟩) ?n15_11b3
       case y15_11b3 => intro w' _; go_simp; with_reducible rfl
       clear hD; intro hD
       simp only [Act.put, sqA, sqB, sqC]
       refine wpAnyK_pureD (i := 12) (d := some 78) (v := ?v15_12b3) (fuel := 6) rfl (by kernel_rfl) (by kernel_rfl) (fun _ _ _ h => h) hD rfl (.inl ⟨by kernel_rfl, ?y15_12b3⟩) ?n15_12b3
       case y15_12b3 => intro w' _; go_simp; with_reducible rfl
       clear hD; intro hD
       simp only [Act.put, sqA, sqB, sqC]
       refine wpAnyK_takeD (i := 13) (d := some 79) (v := ?v15_13b3) (fuel := 5) rfl (by kernel_rfl) (by kernel_rfl) (by kernel_rfl) (fun _ _ _ h => h) hD rfl (.inl ⟨by kernel_rfl, ?y15_13b3⟩) ?n15_13b3
       case y15_13b3 => intro w' hS'; have e0 := (hS' ▸ c16); have e1 := (hS' ▸ c7); go_simp; with_reducible rfl
       clear hD; intro hD
       simp only [Act.put, sqA, sqB, sqC]
       refine wpAnyK_pureD (i := 14) (d := some 80) (v := ?v15_14b3) (fuel := 4) rfl (by kernel_rfl) (by kernel_rfl) (fun _ _ _ h => h) hD rfl (.inl ⟨by kernel_rfl, ?y15_14b3⟩) ?n15_14b3
       case y15_14b3 => intro w' _; go_simp; with_reducible rfl
       clear hD; intro hD
       simp only [Act.put, sqA, sqB, sqC]
       refine wpAnyK_pureD (i := 15) (d := some 81) (v := ?v15_15b3) (fuel := 3) rfl (by kernel_rfl) (by kernel_rfl) (fun _ _ _ h => h) hD rfl (.inl ⟨by kernel_rfl, ?y15_15b3⟩) ?n15_15b3
       case y15_15b3 => intro w' _; go_simp; with_reducible rfl
       clear hD; intro hD
       simp only [Act.put, sqA, sqB, sqC]
       refine wpAnyK_pureD (i := 16) (d := some 82) (v := ?v15_16b3) (fuel := 2) rfl (by kernel_rfl) (by kernel_rfl) (fun _ _ _ h => h) hD rfl (.inl ⟨by kernel_rfl, ?y15_16b3⟩) ?n15_16b3
       case y15_16b3 => intro w' _; go_simp; with_reducible rfl
       clear hD; intro hD
       simp only [Act.put, sqA, sqB, sqC]
       refine wpAnyK_pureD (i := 17) (d := some 83) (v := ?v15_17b3) (fuel := 1) rfl (by kernel_rfl) (by kernel_rfl) (fun _ _ _ h => h) hD rfl (.inl ⟨by kernel_rfl, ?y15_17b3⟩) ?n15_17b3
       case y15_17b3 => intro w' _; go_simp; with_reducible rfl
       clear hD; intro hD
       simp only [Act.put, sqA, sqB, sqC]
       refine wpAnyK_oneT (i := 18) (fuel := 0) (by kernel_rfl) rfl hD (by kernel_rfl) ?_; clear hD; intro K18 hK18
       go_wp2
       refine hK18 _ _ ?_; clear hK18; intro hD
       refine wpAnyK_done (by kernel_rfl) ?_ 0
       clear hD
       clear i15 i2 i16 i7 l15 l2 l16 l7 v15 v2 v16 v7 c16 c7 hf hcw
       rw [sched_val2, ← HV.out]
       obtain ⟨V, hV⟩ : ∃ V, wv m k = V := ⟨_, rfl⟩
       rw [hV]
       have HVV := Hq hV
       clear hV HV
       go_wp2
       go_roundw
       case rel =>
        refine ⟨k + 1, by omega, by omega, by go_num, ?_, ?_⟩
        · rw [← hwe]
          refine (HR4.out.drew.set k V).congr fun i hi => ?_
          unfold wz
          by_cases e : i = k
          · rw [if_pos e, if_pos (by omega), e, HVV.out]
          · rw [if_neg e]
            by_cases h : i < k
            · rw [if_pos h, if_pos (by omega)]
            · rw [if_neg h, if_neg (by omega)]
        · rw [← hwe]; exact HBB.out.drew.setCell (Nat.le_refl _) _
       case measure => simp [RowKit.intOf]; omega
     · have HK := Hq (show k = 64 from by omega)
       have hge : ¬ ((k : Int) < 64) := by omega
       have HR3 := Hq (show RowW wr H 64 216 (wv m) from HR.out.congr fun i hi => by unfold wz; rw [if_pos (by have := HK.out; omega)])
       clear hk0 hk hlt HK
       go_wp2
       go_ret
       exact ⟨rfl, HR3.out, HB.out⟩
end Go.Proofs.YtndmjfkmnjejkaaGreatDoor
namespace Go.Proofs.YtndmjfkmnjejkaaGreatDoor
set_option maxRecDepth 100000
set_option maxHeartbeats 2000000
open Go.RowKit Go.Lib
def RowV8 (w : World) (g c : Nat) (f : Nat → BitVec 32) : Prop := ∃ cur : Array Value, w.heap[g]? = some (.cells cur 216 (0, 0)) ∧ cur.size = c ∧ 8 ≤ c ∧ c ≤ 9223372036854775807 ∧ ∀ j, j < 8 → cur[j]? = some (.int .u32 (wi (f j)))
theorem RowV8.cell {w : World} {g c : Nat} {f : Nat → BitVec 32} (h : RowV8 w g c f) {k : Nat} (hk : k < 8) : w.cell? ⟨g, k, none⟩ = some (.int .u32 (wi (f k))) := by
 obtain ⟨cur, h1, _, _, _, h2⟩ := h
 rw [Lib.cell_of_heap h1]; exact h2 k hk
theorem RowV8.free {w : World} {g c : Nat} {f : Nat → BitVec 32} (h : RowV8 w g c f) (k : Nat) : w.frozen? ⟨g, k, none⟩ = false := by
 obtain ⟨cur, h1, _⟩ := h
 exact Lib.frozen_of_heap h1 k
theorem RowV8.kept {w w' : World} {K g c : Nat} {f : Nat → BitVec 32} (h : RowV8 w g c f) (hb : Below K w w') (hB : g < K) : RowV8 w' g c f := by
 obtain ⟨cur, h1, h2⟩ := h
 exact ⟨cur, (hb.block g hB).trans h1, h2⟩
theorem RowV8.drew {w : World} {g c : Nat} {f : Nat → BitVec 32} (h : RowV8 w g c f) : RowV8 w.drew g c f := h
theorem RowV8.lt {w : World} {g c : Nat} {f : Nat → BitVec 32} (h : RowV8 w g c f) : g < w.heap.size := by
 obtain ⟨cur, h1, _⟩ := h
 exact block_lt h1
theorem RowV8.cap {w : World} {g c : Nat} {f : Nat → BitVec 32} (h : RowV8 w g c f) : 8 ≤ c ∧ c ≤ 9223372036854775807 := by
 obtain ⟨cur, _, _, h1, h2, _⟩ := h
 exact ⟨h1, h2⟩
theorem RowV8.congr {w : World} {g c : Nat} {f f' : Nat → BitVec 32} (h : RowV8 w g c f) (hf : ∀ j, j < 8 → f j = f' j) : RowV8 w g c f' := by
 obtain ⟨cur, h1, h2, h3, h4, h5⟩ := h
 exact ⟨cur, h1, h2, h3, h4, fun j hj => by rw [h5 j hj, hf j hj]⟩
theorem RowV8.set {w : World} {g c : Nat} {f : Nat → BitVec 32} (h : RowV8 w g c f) (k : Nat) (x : BitVec 32) : RowV8 (w.setCell ⟨g, k, none⟩ (.int .u32 (wi x))) g c (fun j => if j = k then x else f j) := by
 obtain ⟨cur, h1, h2, h3, h4, h5⟩ := h
 refine ⟨_, block_setCell h1 _, by rw [Array.size_setIfInBounds, h2], h3, h4, fun j hj => ?_⟩
 rw [Array.getElem?_setIfInBounds]
 simp only []
 by_cases e : k = j
 · subst e; rw [if_pos rfl, if_pos (by omega), if_pos rfl]
 · rw [if_neg e, if_neg (Ne.symm e)]; exact h5 j hj
theorem RowV8.of {w : World} {g : Nat} {f : Nat → BitVec 32} (h : RowW w g 8 216 f) : RowV8 w g 8 f := ⟨_, h, wa_size _ _, Nat.le_refl _, by omega, fun j hj => wa_get f hj⟩
theorem RowV8.c8 {w : World} {B c' : Nat} {a b c d e f g h : BitVec 32} (H : RowV8 w B c' (W8.at ⟨a, b, c, d, e, f, g, h⟩)) : w.cell? ⟨B, 0, none⟩ = some (.int .u32 (wi a)) ∧ w.cell? ⟨B, 1, none⟩ = some (.int .u32 (wi b)) ∧ w.cell? ⟨B, 2, none⟩ = some (.int .u32 (wi c)) ∧ w.cell? ⟨B, 3, none⟩ = some (.int .u32 (wi d)) ∧ w.cell? ⟨B, 4, none⟩ = some (.int .u32 (wi e)) ∧ w.cell? ⟨B, 5, none⟩ = some (.int .u32 (wi f)) ∧ w.cell? ⟨B, 6, none⟩ = some (.int .u32 (wi g)) ∧ w.cell? ⟨B, 7, none⟩ = some (.int .u32 (wi h)) :=
 ⟨H.cell (k := 0) (by decide), H.cell (k := 1) (by decide), H.cell (k := 2) (by decide), H.cell (k := 3) (by decide), H.cell (k := 4) (by decide), H.cell (k := 5) (by decide), H.cell (k := 6) (by decide), H.cell (k := 7) (by decide)⟩
theorem wpList_append_state (w0 : World) {ops : Array Oper} {rest : List Oper} {o : Oper} {a : Act} {Q : Exit → Act → World → Prop} (hg : o.guard = none) (s x : Operand) (hop : o.op = Op.call { callee := Callee.builtin Builtin.append, args := #[s, x], argTypes := #[173, 173] })
 (hs : a.eval s = .slice (some ⟨w0.heap.size, 0, none⟩) 0 0) (b c : Nat) (S : W8) (hx : a.eval x = .slice (some ⟨b, 0, none⟩) 8 c) (hv : RowV8 w0 b c S.at)
 (hK : ∀ g c' w', RowV8 w' g c' S.at → w0.heap.size ≤ g → Below w0.heap.size w0 w' → wpList Tryz.prog ops Q rest (a.put o.dst (.slice (some ⟨g, 0, none⟩) 8 c')) w') : wpList Tryz.prog ops Q (o :: rest) a (w0.alloc (.cells #[] 216)) := by
 obtain ⟨i0, hi, hz0, hz1, hz2⟩ := info_parts word_info
 have hml : maxLen = 9223372036854775807 := rfl
 refine wpList_append_lies (w0.alloc (.cells #[] 216)) hg s x 173 hop w0.heap.size 216 i0 (.int .u32 0) 1 4 Tryz.underlying173 hi hz0 hz1 hz2 rfl (by decide) _ 0 [] hs (World.ownsRow_made w0 #[] 0 (Nat.le_refl _) (by omega) rfl) ⟨b, 0, none⟩ 8 c S.arr.toList hx rfl (fun j u hj => ?_) (by have := W8.arr_one S; rw [Array.all_eq_true'] at this; intro u hu; exact this u (by simpa using hu)) (by decide) (by omega) (by omega) (by simp) _ rfl (fun g cap w' h1 h2 h3 h4 => hK g cap w' ?_ ?_ ?_)
 · have hj8 : j < 8 := (List.getElem?_eq_some_iff.1 hj).1
   rw [Addr.add_lit, Nat.zero_add]
   have := (hv.kept ((Below.refl _ _).alloc (Nat.le_refl _) (.cells #[] 216)) hv.lt).cell hj8
   rw [this, ← hj]
   have e : S.arr.toList[j]? = (wa 8 S.at)[j]? := by rw [← W8.arr_wa]; simp
   rw [e, wa_get _ hj8]
 · rcases h1.2 with ⟨h, _⟩ | ⟨g', cap', cur, hv', hb', hg', q1, q2, q3, q4⟩
   · cases h
   · cases hv'
     refine ⟨cur, hg', by omega, by omega, by omega, fun j hj => ?_⟩
     have := congrArg (fun l => l[j]?) q4
     simp only [List.nil_append] at this
     rw [List.getElem?_take, if_pos (by omega), Array.getElem?_toList] at this
     rw [this]
     have e : S.arr.toList[j]? = (wa 8 S.at)[j]? := by rw [← W8.arr_wa]; simp
     rw [e, wa_get _ hj]
 · exact (h1.lt g rfl).1
 · exact ((Below.refl _ _).alloc (Nat.le_refl _) _).trans ⟨h2.os, h2.tape, h2.output, h2.size, fun k hk => h2.block k (by have := World.size_alloc w0 (.cells #[] 216); omega) (fun e => by have : k = w0.heap.size := Option.some.inj e; omega)⟩
theorem tv_val2 (e f g h k w : BitVec 32) : ((((wi h + bits .xor .u32 (bits .xor .u32 (wi (rr e 6)) (wi (rr e 11))) (wi (rr e 25))) % 4294967296 + bits .xor .u32 (bits .and .u32 (wi e) (wi f)) (bits .and .u32 (bits .xor .u32 IntKind.u32.max (wi e)) (wi g))) % 4294967296 + wi k) % 4294967296 + wi w) % 4294967296 =
 wi (h + (rr e 6 ^^^ rr e 11 ^^^ rr e 25) + (e &&& f ^^^ ~~~ e &&& g) + k + w) := by
 rw [u32_max, wi_not, wi_xor, wi_xor, wi_and, wi_and, wi_xor, mod_val, mod_val, mod_val, mod_val]
theorem tu_val (t a b c : BitVec 32) : (wi t + (bits .xor .u32 (bits .xor .u32 (wi (rr a 2)) (wi (rr a 13))) (wi (rr a 22)) + bits .xor .u32 (bits .xor .u32 (bits .and .u32 (wi a) (wi b)) (bits .and .u32 (wi a) (wi c))) (bits .and .u32 (wi b) (wi c)))) % 4294967296 =
 wi (t + ((rr a 2 ^^^ rr a 13 ^^^ rr a 22) + (a &&& b ^^^ a &&& c ^^^ b &&& c))) := by
 rw [← mod_val, ← uv_val]; omega
theorem RowV8.new (w : World) (S : W8) : RowV8 (w.alloc (.cells S.arr 216)) w.heap.size 8 S.at := RowV8.of (by unfold RowW; rw [← W8.arr_wa]; exact heap_alloc_new _ _)
theorem below_up {a w w' : World} {B : Nat} (h : Below B a w) (hB : B ≤ w.heap.size) (hb : Below w.heap.size w w') : Below B a w' := h.trans (hb.mono hB)
theorem r05_compress (S : W8) (s : ByteArray) (hs : s.size = 64) (b c : Nat) (w : World) (hv : RowV8 w b c S.at) : Calls Tryz.prog 232 #[.slice (some ⟨b, 0, none⟩) 8 c, .string s] w fun e w' => ∃ g c', e = .returned (.slice (some ⟨g, 0, none⟩) 8 c') ∧ RowV8 w' g c' (blk S s.data.toList).at ∧ w.heap.size ≤ g ∧ Below w.heap.size w w' := by
 have HV := Hq hv
 have HS := Hq hs
 clear hv hs
 obtain ⟨Y, hY⟩ : ∃ Y, blk S s.data.toList = Y := ⟨_, rfl⟩
 have HY := Hq hY
 rw [hY]
 clear hY
 go_enter Tryz.func232, Tryz.ntmps232
 go_wp2_with fail
 refine (r05_schedule s HS.out w).mono ?_
 rintro e w1 ⟨rfl, hr1, hb1⟩
 have HR1 := Hq hr1
 have HB1 := Hq hb1
 clear hr1 hb1
 obtain ⟨m, hm⟩ : ∃ m, s.data.toList = m := ⟨_, rfl⟩
 rw [hm] at HR1 HY
 clear hm
 go_wp2_with fail
 refine (r05_constants w1).mono ?_
 rintro e w2 ⟨rfl, hr2, hb2⟩
 have HK2 := Hq hr2
 have HR2 := Hq (HR1.out.kept hb2 HR1.out.lt)
 have HB2 := Hq (below_up HB1.out HB1.out.size hb2)
 have HS2 := Hq hb2.size
 have HV2 := Hq (HV.out.kept HB2.out HV.out.lt)
 obtain ⟨H, hH⟩ : ∃ H, w.heap.size = H := ⟨_, rfl⟩
 obtain ⟨H1, hH1⟩ : ∃ H, w1.heap.size = H := ⟨_, rfl⟩
 have hH01 : H < H1 := by rw [← hH, ← hH1]; exact HR1.out.lt
 have hbH : b < H := by rw [← hH]; exact HV.out.lt
 rw [hH] at HR2 HB2 ⊢
 rw [hH1] at HK2 ⊢
 clear hb2 HB1 HR1 HS2
 go_wp2_with (at_builtin; refine wpList_append_state w2 rfl (.tmp 21) (.tmp 22) rfl rfl b c S rfl HV2.out ?_)
 intro g c' w3 hv3 hg3 hb3
 have hsz2 : H1 < w2.heap.size := by rw [← hH1] at HK2 ⊢; exact HK2.out.lt
 have HV3 := Hq hv3
 have HB3 := Hq (HB2.out.trans (hb3.mono (by omega)))
 have HR3 := Hq (HR2.out.kept hb3 (by omega))
 have HK3 := Hq (HK2.out.kept hb3 hsz2)
 have HG3 := Hq (show H ≤ g from by omega)
 obtain ⟨L, hL⟩ : ∃ L, w3.heap.size = L := ⟨_, rfl⟩
 have hH1L : H1 < L := by rw [← hL]; have := hb3.size; omega
 clear hv3 hg3 hb3 HR2 HK2 HB2 HV2 hsz2
 go_wp2
 go_loopw [7, 8] (fun v i wr => ∃ k g c : Nat, k ≤ 64 ∧ v = .slice (some ⟨g, 0, none⟩) 8 c ∧ i = .int .i64 k ∧ H ≤ g ∧ RowV8 wr g c (rds m S k).at ∧ Below L w3 wr) (fun _ i _ => 64 - (RowKit.intOf i).toNat)
 case atStart => exact ⟨0, g, c', by omega, rfl, rfl, HG3.out, by rw [rds_zero]; exact HV3.out, Below.refl _ _⟩
 case round =>
  obtain ⟨k, g, c2, hk, rfl, rfl, hg, hx, hb⟩ := hrel
  have HX2 := Hq hx
  have HBR := Hq hb
  have HG := Hq hg
  clear hx hb hg
  by_cases hlt : k < 64
  · have hlti : (k : Int) < 64 := by omega
    obtain ⟨⟨a, b', c, d, e, f, g', hh⟩, hst⟩ : ∃ x, rds m S k = x := ⟨_, rfl⟩
    have HST := Hq hst
    rw [hst] at HX2
    clear hst
    obtain ⟨c0, c1, c2', c3, c4, c5, c6, c7⟩ := HX2.out.drew.c8
    clear c3 c7
    have HKW := Hq (HK3.out.kept HBR.out hH1L)
    have HWW := Hq (HR3.out.kept HBR.out (by omega))
    obtain ⟨wd, hwd⟩ : ∃ wd, wr.drew = wd := ⟨_, rfl⟩
    have HXD := Hq (show RowV8 wd g c2 (W8.at ⟨a, b', c, d, e, f, g', hh⟩) from by rw [← hwd]; exact HX2.out)
    have HKD := Hq (show RowW wd H1 64 216 kv from by rw [← hwd]; exact HKW.out.drew)
    have HWD := Hq (show RowW wd H 64 216 (wv m) from by rw [← hwd]; exact HWW.out.drew)
    have HBD := Hq (show Below L w3 wd from by rw [← hwd]; exact HBR.out.drew)
    rw [hwd] at c0 c1 c2' c4 c5 c6
    go_wp2
    refine wp_region_K 24 (Eq wd) (by kernel_rfl) ?_
    intro hD
    rw [hwd]
    have KK1 := Hq (fun w' (hS' : (Eq wd) w') => And.intro ((hS' ▸ c0)) (And.intro ((hS' ▸ c1)) (And.intro ((hS' ▸ c2')) (And.intro ((hS' ▸ c4)) (And.intro ((hS' ▸ c5)) ((hS' ▸ c6)))))))
    refine rP 0 28 23 rfl hD rfl ?_; clear hD; intro hD; simp only [Act.put, sqA, sqB, sqC]
    refine rP 1 29 22 rfl hD rfl ?_; clear hD; intro hD; simp only [Act.put, sqA, sqB, sqC]
    refine rT 2 30 21 rfl hD rfl (by intro w' hS'; obtain ⟨e0, e1, e2, e3, e4, e5⟩ := KK1.out w' hS'; go_simp; with_reducible rfl) ?_; clear hD; intro hD; simp only [Act.put, sqA, sqB, sqC]
    refine rP 3 31 20 rfl hD rfl ?_; clear hD; intro hD; simp only [Act.put, sqA, sqB, sqC]
    refine rP 4 32 19 rfl hD rfl ?_; clear hD; intro hD; simp only [Act.put, sqA, sqB, sqC]
    refine rT 5 33 18 rfl hD rfl (by intro w' hS'; obtain ⟨e0, e1, e2, e3, e4, e5⟩ := KK1.out w' hS'; go_simp; with_reducible rfl) ?_; clear hD; intro hD; simp only [Act.put, sqA, sqB, sqC]
    refine rP 6 34 17 rfl hD rfl ?_; clear hD; intro hD; simp only [Act.put, sqA, sqB, sqC]
    refine rP 7 35 16 rfl hD rfl ?_; clear hD; intro hD; simp only [Act.put, sqA, sqB, sqC]
    refine rT 8 36 15 rfl hD rfl (by intro w' hS'; obtain ⟨e0, e1, e2, e3, e4, e5⟩ := KK1.out w' hS'; go_simp; with_reducible rfl) ?_; clear hD; intro hD; simp only [Act.put, sqA, sqB, sqC]
    refine rP 9 37 14 rfl hD rfl ?_; clear hD; intro hD; simp only [Act.put, sqA, sqB, sqC]
    refine rP 10 38 13 rfl hD rfl ?_; clear hD; intro hD; simp only [Act.put, sqA, sqB, sqC]
    refine rT 11 39 12 rfl hD rfl (by intro w' hS'; obtain ⟨e0, e1, e2, e3, e4, e5⟩ := KK1.out w' hS'; go_simp; with_reducible rfl) ?_; clear hD; intro hD; simp only [Act.put, sqA, sqB, sqC]
    refine rP 12 40 11 rfl hD rfl ?_; clear hD; intro hD; simp only [Act.put, sqA, sqB, sqC]
    refine rP 13 41 10 rfl hD rfl ?_; clear hD; intro hD; simp only [Act.put, sqA, sqB, sqC]
    refine rT 14 42 9 rfl hD rfl (by intro w' hS'; obtain ⟨e0, e1, e2, e3, e4, e5⟩ := KK1.out w' hS'; go_simp; with_reducible rfl) ?_; clear hD; intro hD; simp only [Act.put, sqA, sqB, sqC]
    refine rP 15 43 8 rfl hD rfl ?_; clear hD; intro hD; simp only [Act.put, sqA, sqB, sqC]
    refine rP 16 44 7 rfl hD rfl ?_; clear hD; intro hD; simp only [Act.put, sqA, sqB, sqC]
    refine rT 17 45 6 rfl hD rfl (by intro w' hS'; obtain ⟨e0, e1, e2, e3, e4, e5⟩ := KK1.out w' hS'; go_simp; with_reducible rfl) ?_; clear hD; intro hD; simp only [Act.put, sqA, sqB, sqC]
    refine rO 18 5 rfl hD ?_; clear hD; intro K18 hK18
    go_wp2
    refine hK18 _ _ (by rfl) ?_; clear hK18; intro hS_6_18 hD
    refine rO 19 4 rfl hD ?_; clear hD; intro K19 hK19
    go_wp2
    refine hK19 _ _ (by rfl) ?_; clear hK19; intro hS_6_19 hD
    refine rO 20 3 rfl hD ?_; clear hD; intro K20 hK20
    go_wp2
    refine hK20 _ _ (by rfl) ?_; clear hK20; intro hS_6_20 hD
    refine rO 21 2 rfl hD ?_; clear hD; intro K21 hK21
    go_wp2
    refine hK21 _ _ (by rfl) ?_; clear hK21; intro hS_6_21 hD
    refine rO 22 1 rfl hD ?_; clear hD; intro K22 hK22
    go_wp2
    refine hK22 _ _ (by rfl) ?_; clear hK22; intro hS_6_22 hD
    refine rO 23 0 rfl hD ?_; clear hD; intro K23 hK23
    go_wp2
    refine hK23 _ _ (by rfl) ?_; clear hK23; intro hS_6_23 hD
    refine wpAnyK_done (by kernel_rfl) ?_ 0
    clear hD
    clear c0 c1 c2' c4 c5 c6 hwd HX2 HKW HWW HBR
    obtain ⟨we, hwe⟩ : ∃ we, wd.drew = we := ⟨_, rfl⟩
    have HXE := Hq (show RowV8 we g c2 (W8.at ⟨a, b', c, d, e, f, g', hh⟩) from by rw [← hwe]; exact HXD.out)
    obtain ⟨_, _, _, _, _, _, _, c7⟩ := HXE.out.c8
    have ck := (show RowW we H1 64 216 kv from by rw [← hwe]; exact HKD.out).cell hlt
    have cw := (show RowW we H 64 216 (wv m) from by rw [← hwe]; exact HWD.out).cell hlt
    obtain ⟨kk, hkk⟩ : ∃ x, kv k = x := ⟨_, rfl⟩
    obtain ⟨ww, hww⟩ : ∃ x, wv m k = x := ⟨_, rfl⟩
    rw [hkk] at ck
    rw [hww] at cw
    have HKK := Hq hkk
    have HWW := Hq hww
    clear hkk hww
    have HBE := Hq (show Below L w3 we from by rw [← hwe]; exact HBD.out.drew)
    go_wp2
    refine wp_region_K 32 (Below (we).heap.size (we)) (by kernel_rfl) ?_
    intro hD
    rw [hwe]
    refine rP 0 46 31 rfl hD (Below.refl _ _) ?_; clear hD; intro hD; simp only [Act.put, sqA, sqB, sqC]
    refine rP 1 47 30 rfl hD (Below.refl _ _) ?_; clear hD; intro hD; simp only [Act.put, sqA, sqB, sqC]
    refine rT 2 48 29 rfl hD (Below.refl _ _) (by intro w' hS'; have e0 := kC hS' c7; have e1 := kC hS' ck; have e2 := kC hS' cw; go_simp; with_reducible rfl) ?_; clear hD; intro hD; simp only [Act.put, sqA, sqB, sqC]
    refine rP 3 49 28 rfl hD (Below.refl _ _) ?_; clear hD; intro hD; simp only [Act.put, sqA, sqB, sqC]
    refine rP 5 51 27 rfl hD (Below.refl _ _) ?_; clear hD; intro hD; simp only [Act.put, sqA, sqB, sqC]
    refine rP 8 54 26 rfl hD (Below.refl _ _) ?_; clear hD; intro hD; simp only [Act.put, sqA, sqB, sqC]
    refine rP 12 58 25 rfl hD (Below.refl _ _) ?_; clear hD; intro hD; simp only [Act.put, sqA, sqB, sqC]
    refine rP 13 59 24 rfl hD (Below.refl _ _) ?_; clear hD; intro hD; simp only [Act.put, sqA, sqB, sqC]
    refine rP 14 60 23 rfl hD (Below.refl _ _) ?_; clear hD; intro hD; simp only [Act.put, sqA, sqB, sqC]
    refine rP 15 61 22 rfl hD (Below.refl _ _) ?_; clear hD; intro hD; simp only [Act.put, sqA, sqB, sqC]
    refine rP 16 62 21 rfl hD (Below.refl _ _) ?_; clear hD; intro hD; simp only [Act.put, sqA, sqB, sqC]
    refine rP 17 63 20 rfl hD (Below.refl _ _) ?_; clear hD; intro hD; simp only [Act.put, sqA, sqB, sqC]
    refine rP 18 64 19 rfl hD (Below.refl _ _) ?_; clear hD; intro hD; simp only [Act.put, sqA, sqB, sqC]
    refine rP 19 65 18 rfl hD (Below.refl _ _) ?_; clear hD; intro hD; simp only [Act.put, sqA, sqB, sqC]
    refine rP 21 67 17 rfl hD (Below.refl _ _) ?_; clear hD; intro hD; simp only [Act.put, sqA, sqB, sqC]
    refine rP 22 68 16 rfl hD (Below.refl _ _) ?_; clear hD; intro hD; simp only [Act.put, sqA, sqB, sqC]
    refine rP 23 69 15 rfl hD (Below.refl _ _) ?_; clear hD; intro hD; simp only [Act.put, sqA, sqB, sqC]
    refine rT 24 70 14 rfl hD (Below.refl _ _) (by intro w' hS'; have e0 := kC hS' c7; have e1 := kC hS' ck; have e2 := kC hS' cw; go_simp; with_reducible rfl) ?_; clear hD; intro hD; simp only [Act.put, sqA, sqB, sqC]
    refine rP 26 72 13 rfl hD (Below.refl _ _) ?_; clear hD; intro hD; simp only [Act.put, sqA, sqB, sqC]
    refine rP 27 73 12 rfl hD (Below.refl _ _) ?_; clear hD; intro hD; simp only [Act.put, sqA, sqB, sqC]
    refine rP 28 74 11 rfl hD (Below.refl _ _) ?_; clear hD; intro hD; simp only [Act.put, sqA, sqB, sqC]
    refine rT 29 75 10 rfl hD (Below.refl _ _) (by intro w' hS'; have e0 := kC hS' c7; have e1 := kC hS' ck; have e2 := kC hS' cw; go_simp; with_reducible rfl) ?_; clear hD; intro hD; simp only [Act.put, sqA, sqB, sqC]
    refine rO 4 9 rfl hD ?_; clear hD; intro K4 hK4
    go_wp2_with fail
    refine (r05_right e 6 (by decide) (by decide) _).mono ?_
    rintro e' w1 ⟨rfl, hb⟩
    have HB4 := Hq hb
    clear hb
    go_wp2
    refine hK4 _ _ (by exact HB4.out) ?_; clear hK4; intro hS_7_4 hD
    refine rO 6 8 rfl hD ?_; clear hD; intro K6 hK6
    go_wp2_with fail
    refine (r05_right e 11 (by decide) (by decide) _).mono ?_
    rintro e' w1 ⟨rfl, hb⟩
    have HB6 := Hq hb
    clear hb
    go_wp2
    refine hK6 _ _ (by exact Below.trans hS_7_4 (Below.mono HB6.out (Below.size hS_7_4))) ?_; clear hK6; intro hS_7_6 hD
    refine rP 7 53 7 rfl hD hS_7_6 ?_; clear hD; intro hD; simp only [Act.put, sqA, sqB, sqC]
    refine rO 9 6 rfl hD ?_; clear hD; intro K9 hK9
    go_wp2_with fail
    refine (r05_right e 25 (by decide) (by decide) _).mono ?_
    rintro e' w1 ⟨rfl, hb⟩
    have HB9 := Hq hb
    clear hb
    go_wp2
    refine hK9 _ _ (by exact Below.trans hS_7_6 (Below.mono HB9.out (Below.size hS_7_6))) ?_; clear hK9; intro hS_7_9 hD
    refine rP 10 56 5 rfl hD hS_7_9 ?_; clear hD; intro hD; simp only [Act.put, sqA, sqB, sqC]
    refine rP 11 57 4 rfl hD hS_7_9 ?_; clear hD; intro hD; simp only [Act.put, sqA, sqB, sqC]
    refine rP 20 66 3 rfl hD hS_7_9 ?_; clear hD; intro hD; simp only [Act.put, sqA, sqB, sqC]
    refine rP 25 71 2 rfl hD hS_7_9 ?_; clear hD; intro hD; simp only [Act.put, sqA, sqB, sqC]
    refine rP 30 76 1 rfl hD hS_7_9 ?_; clear hD; intro hD; simp only [Act.put, sqA, sqB, sqC]
    refine rO 31 0 rfl hD ?_; clear hD; intro K31 hK31
    go_wp2
    refine hK31 _ _ (by exact hS_7_9) ?_; clear hK31; intro hS_7_31 hD
    have HL := Hq hS_7_31
    refine wpAnyK_done (by kernel_rfl) ?_ 0
    clear hD
    clear c7 ck cw
    rw [tv_val2]
    obtain ⟨T, hT⟩ : ∃ T, hh + (rr e 6 ^^^ rr e 11 ^^^ rr e 25) + (e &&& f ^^^ ~~~ e &&& g') + kk + ww = T := ⟨_, rfl⟩
    have HT := Hq hT
    rw [hT]
    clear hT
    have HXL := Hq (HXE.out.kept HL.out HXE.out.lt)
    have HBL := Hq (below_up HBE.out (by rw [← hL]; exact HBE.out.size) HL.out)
    have HSL := Hq (show L ≤ we.heap.size from by rw [← hL]; have := HBE.out.size; omega)
    have HSM := Hq HL.out.size
    go_wp2_with fail
    refine (r05_right a 2 (by decide) (by decide) _).mono ?_
    rintro e' w5 ⟨rfl, hb5⟩
    go_wp2_with fail
    refine (r05_right a 13 (by decide) (by decide) _).mono ?_
    rintro e' w6 ⟨rfl, hb6⟩
    go_wp2_with fail
    refine (r05_right a 22 (by decide) (by decide) _).mono ?_
    rintro e' w7 ⟨rfl, hb7⟩
    have hb567 := (hb5.trans (hb6.mono hb5.size)).trans (hb7.mono (by have := hb5.size; have := hb6.size; omega))
    have HX7 := Hq (HXL.out.kept hb567 HXL.out.lt)
    have HB7 := Hq (below_up HBL.out (by have := HSL.out; have := HSM.out; omega) hb567)
    have HS7 := Hq (show L ≤ w7.heap.size from by have := HSL.out; have := HSM.out; have := hb567.size; omega)
    clear hb5 hb6 hb7 hb567
    obtain ⟨_, _, _, c3, _, _, _, _⟩ := HX7.out.c8
    go_wp2
    rw [tu_val, mod_val]
    clear c3
    refine ⟨⟨k + 1, w7.heap.size, 8, by omega, rfl, by go_num, by have := HS7.out; omega, ?_, HB7.out.alloc HS7.out _⟩, by simp [RowKit.intOf]; omega⟩
    rw [rds_succ, HST.out, HKK.out, HWW.out]
    have := RowV8.new w7 (rd kk ww ⟨a, b', c, d, e, f, g', hh⟩)
    rw [← HT.out]
    exact this
  · have HK64 := Hq (show k = 64 from by omega)
    have hge : ¬ ((k : Int) < 64) := by omega
    obtain ⟨X, hX⟩ : ∃ X, rds m S 64 = X := ⟨_, rfl⟩
    have HX3 := Hq (show RowV8 wr g c2 (addP X S 0) from by
     have h := HX2.out
     rw [HK64.out, hX] at h
     exact h.congr fun j _ => by unfold addP; rw [if_neg (Nat.not_lt_zero _)])
    have HXY := Hq (show X.add S = Y from by rw [← hX, ← HY.out]; rfl)
    have HV4 := Hq (HV.out.kept HB3.out (by omega))
    have HV3' := Hq (HV4.out.kept HBR.out (by omega))
    have HBX := Hq (show Below H w wr from HB3.out.trans (HBR.out.mono (by omega)))
    clear hk hlt HX2 HK64 hX HBR HV4 HV3 HR3 HK3
    go_wp2
    go_loopw [17] (fun i wr => ∃ q : Nat, q ≤ 8 ∧ i = .int .i64 q ∧ RowV8 wr g c2 (addP X S q) ∧ Below H w wr) (fun i _ => 8 - (RowKit.intOf i).toNat)
    case atStart => exact ⟨0, by omega, rfl, HX3.out, HBX.out⟩
    case round =>
     obtain ⟨q, hq, rfl, hx, hb⟩ := hrel
     have HXQ := Hq hx
     have HBQ := Hq hb
     clear hx hb
     by_cases hq8 : q < 8
     · have hqi : (q : Int) < 8 := by omega
       have c0 := HXQ.out.drew.cell hq8
       have c1 := (HV.out.kept HBQ.out (by rw [← hH] at hbH; omega)).drew.cell hq8
       have hf := HXQ.out.drew.free q
       obtain ⟨x, hx⟩ : ∃ x, addP X S q q = x := ⟨_, rfl⟩
       obtain ⟨y, hy⟩ : ∃ x, S.at q = x := ⟨_, rfl⟩
       have HE := Hq (show addP X S (q + 1) q = x + y from by rw [← hx, ← hy]; unfold addP; rw [if_pos (by omega), if_neg (by omega)])
       rw [hx] at c0
       rw [hy] at c1
       clear hx hy
       obtain ⟨wd, hwd⟩ : ∃ wd, wr.drew = wd := ⟨_, rfl⟩
       rw [hwd] at c0 c1 hf
       go_wp2
       refine wp_region_K 10 (Eq wd) (by kernel_rfl) ?_
       intro hD
       rw [hwd]
       refine wpAnyK_pureD (i := 0) (d := some 116) (v := ?v13_0b3) (fuel := 10) rfl (by kernel_rfl) (by kernel_rfl) (fun _ _ _ h => h) hD rfl (.inl ⟨by kernel_rfl, ?y13_0b3⟩) ?n13_0b3
       case y13_0b3 => intro w' _; go_simp; with_reducible rfl
       clear hD; intro hD
       simp only [Act.put, sqA, sqB, sqC]
       refine wpAnyK_pureD (i := 1) (d := some 117) (v := ?v13_1b3) (fuel := 9) rfl (by kernel_rfl) (by kernel_rfl) (fun _ _ _ h => h) hD rfl (.inl ⟨by kernel_rfl, ?y13_1b3⟩) ?n13_1b3
       case y13_1b3 => intro w' _; go_simp; with_reducible rfl
       clear hD; intro hD
       simp only [Act.put, sqA, sqB, sqC]
       refine wpAnyK_pureD (i := 2) (d := some 118) (v := ?v13_2b3) (fuel := 8) rfl (by kernel_rfl) (by kernel_rfl) (fun _ _ _ h => h) hD rfl (.inl ⟨by kernel_rfl, ?y13_2b3⟩) ?n13_2b3
       case y13_2b3 => intro w' _; go_simp; with_reducible rfl
       clear hD; intro hD
       simp only [Act.put, sqA, sqB, sqC]
       refine wpAnyK_takeD (i := 3) (d := some 119) (v := ?v13_3b3) (fuel := 7) rfl (by kernel_rfl) (by kernel_rfl) (by kernel_rfl) (fun _ _ _ h => h) hD rfl (.inl ⟨by kernel_rfl, ?y13_3b3⟩) ?n13_3b3
       case y13_3b3 => intro w' hS'; have e0 := (hS' ▸ c0); have e1 := (hS' ▸ c1); go_simp; with_reducible rfl
       clear hD; intro hD
       simp only [Act.put, sqA, sqB, sqC]
       refine wpAnyK_pureD (i := 4) (d := some 120) (v := ?v13_4b3) (fuel := 6) rfl (by kernel_rfl) (by kernel_rfl) (fun _ _ _ h => h) hD rfl (.inl ⟨by kernel_rfl, ?y13_4b3⟩) ?n13_4b3
       case y13_4b3 => intro w' _; go_simp; with_reducible rfl
       clear hD; intro hD
       simp only [Act.put, sqA, sqB, sqC]
       refine wpAnyK_pureD (i := 5) (d := some 121) (v := ?v13_5b3) (fuel := 5) rfl (by kernel_rfl) (by kernel_rfl) (fun _ _ _ h => h) hD rfl (.inl ⟨by kernel_rfl, ?y13_5b3⟩) ?n13_5b3
       case y13_5b3 => intro w' _; go_simp; with_reducible rfl
       clear hD; intro hD
       simp only [Act.put, sqA, sqB, sqC]
       refine wpAnyK_pureD (i := 6) (d := some 122) (v := ?v13_6b3) (fuel := 4) rfl (by kernel_rfl) (by kernel_rfl) (fun _ _ _ h => h) hD rfl (.inl ⟨by kernel_rfl, ?y13_6b3⟩) ?n13_6b3
       case y13_6b3 => intro w' _; go_simp; with_reducible rfl
       clear hD; intro hD
       simp only [Act.put, sqA, sqB, sqC]
       refine wpAnyK_takeD (i := 7) (d := some 123) (v := ?v13_7b3) (fuel := 3) rfl (by kernel_rfl) (by kernel_rfl) (by kernel_rfl) (fun _ _ _ h => h) hD rfl (.inl ⟨by kernel_rfl, ?y13_7b3⟩) ?n13_7b3
       case y13_7b3 => intro w' hS'; have e0 := (hS' ▸ c0); have e1 := (hS' ▸ c1); go_simp; with_reducible rfl
       clear hD; intro hD
       simp only [Act.put, sqA, sqB, sqC]
       refine wpAnyK_pureD (i := 8) (d := some 124) (v := ?v13_8b3) (fuel := 2) rfl (by kernel_rfl) (by kernel_rfl) (fun _ _ _ h => h) hD rfl (.inl ⟨by kernel_rfl, ?y13_8b3⟩) ?n13_8b3
       case y13_8b3 => intro w' _; go_simp; with_reducible rfl
       clear hD; intro hD
       simp only [Act.put, sqA, sqB, sqC]
       refine wpAnyK_pureD (i := 9) (d := some 125) (v := ?v13_9b3) (fuel := 1) rfl (by kernel_rfl) (by kernel_rfl) (fun _ _ _ h => h) hD rfl (.inl ⟨by kernel_rfl, ?y13_9b3⟩) ?n13_9b3
       case y13_9b3 => intro w' _; go_simp; with_reducible rfl
       clear hD; intro hD
       simp only [Act.put, sqA, sqB, sqC]
       refine wpAnyK_oneT (i := 10) (fuel := 0) (by kernel_rfl) rfl hD (by kernel_rfl) ?_; clear hD; intro K10 hK10
       go_wp2
       refine hK10 _ _ ?_; clear hK10; intro hD
       refine wpAnyK_done (by kernel_rfl) ?_ 0
       clear hD
       clear c0 c1 hf
       rw [mod_val]
       go_wp2
       go_roundw
       case rel =>
        refine ⟨q + 1, by omega, by go_num, ?_, ?_⟩
        · rw [← hwd]
          refine (HXQ.out.drew.set q (x + y)).congr fun i hi => ?_
          by_cases e : i = q
          · rw [if_pos e, e, HE.out]
          · rw [if_neg e]; unfold addP
            by_cases h : i < q
            · rw [if_pos h, if_pos (by omega)]
            · rw [if_neg h, if_neg (by omega)]
        · rw [← hwd]; exact HBQ.out.drew.setCell (by have := HG.out; exact this) _
       case measure => simp [RowKit.intOf]; omega
     · have HQ := Hq (show q = 8 from by omega)
       have hqe : ¬ ((q : Int) < 8) := by omega
       have HXE := Hq (show RowV8 wr g c2 Y.at from by
        have h := HXQ.out
        rw [HQ.out] at h
        rw [← HXY.out]
        exact h.congr fun j hj => addP_all X S j hj)
       clear hq hq8 HXQ HQ
       go_wp2
       go_ret
       exact ⟨g, c2, rfl, HXE.out, HG.out, HBQ.out⟩
end Go.Proofs.YtndmjfkmnjejkaaGreatDoor

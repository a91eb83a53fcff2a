/- Walk: hash.Sum. -/
import Derived.Test.YtpdejgdkpghjhaaGreatDoorQShF
set_option linter.unusedVariables false
set_option linter.unusedSimpArgs false
namespace Go.Proofs.YtpdejgdkpghjhaaGreatDoor
open Go.RowKit Go.Lib
theorem shE8_get (N : Nat) {q : Nat} (h : q < 8) : (shE8 N).take (q + 1) = (shE8 N).take q ++ [UInt8.ofNat (N / 2 ^ (56 - 8 * q))] := by
  match q, h with
  | 0, _ => rfl
  | 1, _ => rfl
  | 2, _ => rfl
  | 3, _ => rfl
  | 4, _ => rfl
  | 5, _ => rfl
  | 6, _ => rfl
  | 7, _ => show shE8 N = _; unfold shE8; simp
theorem byte_val (n sh : Nat) : (#[Value.int .u8 ((n : Int) * 8 / 2 ^ sh % 256)] : Array Value) = (byteCells [UInt8.ofNat (n * 8 / 2 ^ sh)]).toArray := by
  have : ((n : Int) * 8 / 2 ^ sh % 256) = ((n * 8 / 2 ^ sh % 256 : Nat) : Int) := by simp
  rw [this]
  simp [byteCells, UInt8.toNat_ofNat']
set_option maxRecDepth 100000 in
set_option maxHeartbeats 2000000 in
theorem h_Sum (s : ByteArray) (hs : s.size ≤ 1000000000000) (w : World) : Calls Tryz.prog 136 #[.string s] w (Ret (.string (bstr (shaL s.data.toList))) w) := by
  obtain ⟨n, hn⟩ : ∃ n, s.size = n := ⟨_, rfl⟩
  obtain ⟨l, hl⟩ : ∃ l, s.data.toList = l := ⟨_, rfl⟩
  have hll : l.length = n := by rw [← hl, ← hn]; exact Array.length_toList
  obtain ⟨r, hr⟩ : ∃ r, bstr (shaL l) = r := ⟨_, rfl⟩
  have HR := Lib.hid hr
  have HL := Lib.hid hll
  have hmk := make_room n (n + 72) (by omega) (by omega) w
  simp only [Int.natCast_add, Int.cast_ofNat_Int] at hmk
  have HCR := Lib.hid (copy_run w s n (n + 72) hn (by omega) 3)
  have HM1 := Lib.hid (copied w s (n + 72) (by omega) (by unfold maxLen; omega))
  rw [hl] at HCR HM1 ⊢
  rw [hr]
  obtain ⟨w1, hw1⟩ : ∃ w1, (w.alloc (.cells (madeCells #[.int .u8 0] (n + 72)) 5)).setRow w.heap.size (((madeCells #[.int .u8 0] (n + 72)).toList.take 0 ++ byteCells l ++ (madeCells #[.int .u8 0] (n + 72)).toList.drop (0 + s.size)).toArray) = w1 := ⟨_, rfl⟩
  have HB1 := Lib.hid (show Below w.heap.size w w1 from hw1 ▸ copied_below _ _ _ _)
  rw [hw1] at HCR HM1
  clear hw1 hr hl hll
  rw [hn] at hs
  have hsi : (n : Int) ≤ 1000000000000 := by omega
  clear hs
  go_enter Tryz.func136, Tryz.ntmps136
  go_wp2_with (first
    | refine wpList_copy_ran _ rfl (.tmp 16) (.tmp 17) 148 9 rfl _ _ rfl rfl HCR.out ?_
    | (at_builtin; refine wpList_append_msg _ rfl (.tmp 19) (.tmp 20) rfl w.heap.size (n + 72) n 1 l [128] HL.out rfl rfl (HM1.out.kept ((Below.refl _ _).alloc (Nat.le_refl _) _)) w1.heap.size 1 rfl (heap_alloc_new _ _) (by omega) ?_))
  intro w2 hm2 hb2
  obtain ⟨H, hH⟩ : ∃ H, w.heap.size = H := ⟨_, rfl⟩
  rw [hH] at HB1 HM1 hm2 hb2 ⊢
  have HM2 := Lib.hid hm2
  have HB2 := Lib.hid (show Below H w w2 from (HB1.out.alloc (by rw [← hH]; exact HB1.out.size) _).trans hb2)
  clear hm2 hb2 HM1 HB1 HCR hmk
  have HZ := Lib.hid (show zs n = (119 - n % 64) % 64 from rfl)
  go_wp2
  go_loopw [3] (fun v wr => ∃ k : Nat, k ≤ zs n ∧ v = .slice (some ⟨H, 0, none⟩) (n + 1 + k) (n + 72) ∧ MsgAt wr H (n + 72) (l ++ [128] ++ List.replicate k 0) ∧ Below H w wr) (fun v _ => n + 100 - sliceLen v)
  case atStart => exact ⟨0, Nat.zero_le _, rfl, by simpa using HM2.out, HB2.out⟩
  case round =>
    obtain ⟨k, hk, rfl, hm, hb⟩ := hrel
    have HM := Lib.hid hm
    have HB := Lib.hid hb
    clear hm hb
    obtain ⟨j, hj⟩ : ∃ j, n + 1 + k = j := ⟨_, rfl⟩
    have HJ := Lib.hid hj
    rw [hj]
    have HLEN := Lib.hid (show (l ++ [128] ++ List.replicate k 0).length = j from by simp [HL.out]; omega)
    by_cases hlt : k < zs n
    · have hne : ¬ ((j : Int) % 64 = 56) := by have := HZ.out; omega
      have hj72 : j + 1 ≤ n + 72 := by have := HZ.out; omega
      clear hj hk
      go_wp2_with (at_builtin; refine wpList_append_msg _ rfl (.tmp 26) (.tmp 27) rfl H (n + 72) j 1 (l ++ [128] ++ List.replicate k 0) [0] HLEN.out rfl rfl (HM.out.kept ((Below.refl _ _).alloc (Nat.le_refl _) _)) wr.heap.size 1 rfl (heap_alloc_new _ _) hj72 ?_)
      intro w3 hm3 hb3
      have HM3 := Lib.hid hm3
      have HB3 := Lib.hid (show Below H w w3 from (HB.out.alloc (by have := HM.out.lt; omega) _).trans hb3)
      clear hm3 hb3 hj72 hne
      go_wp2
      go_roundw
      case rel =>
        refine ⟨k + 1, by omega, by have := HJ.out; rw [← this]; rfl, ?_, HB3.out⟩
        rw [List.replicate_succ', ← List.append_assoc]
        simpa using HM3.out
      case measure => have := HJ.out; have := HZ.out; simp [sliceLen]; omega
    · have he : (j : Int) % 64 = 56 := by have := HZ.out; omega
      have HKZ := Lib.hid (show k = zs n from by omega)
      have HMZ := Lib.hid (show MsgAt wr H (n + 72) (l ++ [128] ++ List.replicate (zs n) 0) from by rw [← HKZ.out]; exact HM.out)
      obtain ⟨M, hM⟩ : ∃ M, l ++ [128] ++ List.replicate (zs n) 0 = M := ⟨_, rfl⟩
      rw [hM] at HMZ
      have HLM := Lib.hid (show M.length = j from by rw [← hM, ← HKZ.out]; exact HLEN.out)
      have hj64 := Lib.hid (show j + 8 ≤ n + 72 from by have := HZ.out; omega)
      have HMM := Lib.hid hM
      clear hM HM hk hlt hj HLEN HJ
      go_wp2
      clear he
      go_loopw [3, 5] (fun v i wr => ∃ q : Nat, q ≤ 8 ∧ v = .slice (some ⟨H, 0, none⟩) (j + q) (n + 72) ∧ i = .int .i64 (56 - 8 * (q : Int)) ∧ MsgAt wr H (n + 72) (M ++ (shE8 (n * 8)).take q) ∧ Below H w wr) (fun v _ _ => n + 100 - sliceLen v)
      case atStart => exact ⟨0, Nat.zero_le _, rfl, rfl, by simpa using HMZ.out, HB.out⟩
      case round =>
        obtain ⟨q, hq, rfl, rfl, hm, hb⟩ := hrel
        have HM := Lib.hid hm
        have HB := Lib.hid hb
        clear hm hb
        by_cases hlt : q < 8
        · obtain ⟨sh, hsh⟩ : ∃ sh, 56 - 8 * q = sh := ⟨_, rfl⟩
          have hshi : (56 : Int) - 8 * (q : Int) = (sh : Int) := by omega
          have hsh64 : (sh : Int) < 64 := by omega
          have HV := Lib.hid (byte_val n sh)
          have HTK := Lib.hid (shE8_get (n * 8) hlt)
          rw [hsh] at HTK
          have HLQ := Lib.hid (show (M ++ (shE8 (n * 8)).take q).length = j + q from by rw [List.length_append, HLM.out, List.length_take]; simp [shE8]; omega)
          have hfit : j + q + 1 ≤ n + 72 := by have := hj64.out; omega
          clear hsh
          go_wp2_with (at_builtin; refine wpList_append_msg _ rfl (.tmp 37) (.tmp 42) rfl H (n + 72) (j + q) 1 (M ++ (shE8 (n * 8)).take q) [UInt8.ofNat (n * 8 / 2 ^ sh)] HLQ.out rfl rfl (HM.out.kept ((Below.refl _ _).alloc (Nat.le_refl _) _)) wr.heap.size 1 rfl (by rw [← HV.out]; exact heap_alloc_new _ _) hfit ?_)
          intro w3 hm3 hb3
          have HM3 := Lib.hid hm3
          have HB3 := Lib.hid (show Below H w w3 from (HB.out.alloc (by have := HM.out.lt; omega) _).trans hb3)
          clear hm3 hb3 hfit
          have hsub : (sh : Int) - 8 = 56 - 8 * ((q + 1 : Nat) : Int) := by omega
          go_wp2
          go_roundw
          case rel =>
            refine ⟨q + 1, by omega, rfl, ?_, ?_, HB3.out⟩
            · simp
            · rw [HTK.out]; exact HM3.out
          case measure => have := hj64.out; simp [sliceLen]; omega
        · have HQ := Lib.hid (show q = 8 from by omega)
          have hge : ¬ ((0 : Int) ≤ 56 - 8 * (q : Int)) := by omega
          obtain ⟨Ln, hLn⟩ : ∃ x, j + q = x := ⟨_, rfl⟩
          have HP := Lib.hid (show MsgAt wr H (n + 72) (padL l) from by
            have h := HM.out
            rw [HQ.out, ← HMM.out] at h
            unfold padL
            rw [HL.out]
            exact h)
          have HLP := Lib.hid (show (padL l).length = Ln from by rw [padL_length, ← hLn, HQ.out]; have h1 := HLM.out; rw [← HMM.out] at h1; simp [HL.out] at h1 ⊢; omega)
          have HMOD := Lib.hid (show Ln % 64 = 0 from by rw [← HLP.out]; exact padL_mod l)
          rw [hLn]
          clear hLn HM hq hlt HMZ HLM HMM
          go_wp2_with fail
          refine (h_first _).mono ?_
          rintro e w4 ⟨rfl, hb4⟩
          dsimp only
          have HB4 := Lib.hid (show Below H w w4 from HB.out.trans (hb4.mono (by have := HP.out.lt; omega)))
          have HP4 := Lib.hid (HP.out.kept hb4)
          clear hb4 HB HP
          obtain ⟨X, hX⟩ : ∃ X, w4.heap.size = X := ⟨_, rfl⟩
          have hHX : H < X := by rw [← hX]; exact HP4.out.lt
          go_step
          refine Great.wpList_allocTo rfl _ rfl (.pointer (some ⟨X, 0, none⟩)) (.cells z8 197) (by rw [← hX]; kernel_rfl) ?_
          refine wpList_store_rowTo rfl 197 _ _ rfl rfl X st0.arr (by kernel_rfl) (by kernel_rfl) 197 z8 (by rw [← hX]; exact heap_alloc_new _ _) (by kernel_rfl) (by kernel_rfl) (W8.arr_one _) ?_
          rw [← hX, World.setRow_alloc_new]
          obtain ⟨w5, hw5⟩ : ∃ w5, w4.alloc (.cells st0.arr 197) = w5 := ⟨_, rfl⟩
          have hb5 : Below X w4 w5 := hX ▸ hw5 ▸ (Below.refl _ _).alloc (Nat.le_refl _) _
          have HX5 := Lib.hid (show RowS w5 X st0 from by rw [← hw5, ← hX]; exact heap_alloc_new _ _)
          have HB5 := Lib.hid (show Below H w w5 from HB4.out.trans (hb5.mono (by omega)))
          have HP5 := Lib.hid (HP4.out.kept (hX ▸ hb5))
          rw [hw5, hX]
          clear hw5 hb5 HB4 HP4
          obtain ⟨P, hP⟩ : ∃ P, padL l = P := ⟨_, rfl⟩
          have HPP := Lib.hid hP
          rw [hP] at HLP HP5
          clear hP
          go_wp2
          simp only [Act.put, sqA, sqB, sqC]
          go_loopw [3] (fun v wr => ∃ i o c : Nat, 64 * i ≤ Ln ∧ v = .slice (some ⟨H, o, none⟩) (Ln - 64 * i) c ∧ BytesAt wr (some ⟨H, o, none⟩) (Ln - 64 * i) c (P.drop (64 * i)) ∧ RowS wr X (blks st0 i P) ∧ Below H w wr ∧ X < wr.heap.size) (fun v _ => sliceLen v)
          case atStart => exact ⟨0, 0, n + 72, Nat.zero_le _, rfl, by have := HP5.out.bytes; rw [HLP.out] at this; exact this, HX5.out, HB5.out, HX5.out.lt⟩
          case round =>
            obtain ⟨i, o, c, hi, rfl, hby, hx, hb, hxs⟩ := hrel
            have HBY := Lib.hid hby
            have HX := Lib.hid hx
            have HB := Lib.hid hb
            clear hby hx hb
            obtain ⟨rem, hrem⟩ : ∃ x, Ln - 64 * i = x := ⟨_, rfl⟩
            rw [hrem] at HBY ⊢
            by_cases h0 : 0 < rem
            · have hr64 : 64 ≤ rem := by have := HMOD.out; omega
              have hri : 0 < (rem : Int) := by omega
              have hc64 : 64 ≤ c := by have := HBY.out.2.1; omega
              have hc64i : (64 : Int) ≤ (c : Int) := by omega
              have hr64i : (64 : Int) ≤ (rem : Int) := by omega
              have HLD := Lib.hid (show ∀ w', Below wr.drew.heap.size wr.drew w' → RowS w' X (blks st0 i P) from fun w' hb => (show RowS wr.drew X (blks st0 i P) from HX.out).kept hb hxs)
              go_wp2
              trace_state
              refine wp_region_K 4 (Below (wr.drew).heap.size (wr.drew)) (by kernel_rfl) ?_
              intro hD
              refine wpAnyK_takeD (i := 0) (d := some 50) (v := (.agg (blks st0 i P).arr)) (fuel := 4) rfl (by kernel_rfl) (by kernel_rfl) (by kernel_rfl) (fun _ _ _ h => h) hD (Below.refl _ _) (.inl ⟨by kernel_rfl, ?y14_0b1⟩) ?n14_0b1
              case y14_0b1 =>
                intro w' hS'
                exact load_row_run 197 _ rfl X rfl _ (HLD.out _ hS') Tryz.underlying197 rfl (by kernel_rfl)
              clear hD; intro hD
              simp only [Act.put, sqA, sqB, sqC]
              refine wpAnyK_pureD (i := 1) (d := some 51) (v := ?v14_1b1) (fuel := 3) rfl (by kernel_rfl) (by kernel_rfl) (fun _ _ _ h => h) hD (Below.refl _ _) (.inl ⟨by kernel_rfl, ?y14_1b1⟩) ?n14_1b1
              case y14_1b1 => intro w' _; go_simp; with_reducible rfl
              clear hD; intro hD
              simp only [Act.put, sqA, sqB, sqC]
              refine wpAnyK_pureD (i := 2) (d := some 52) (v := ?v14_2b1) (fuel := 2) rfl (by kernel_rfl) (by kernel_rfl) (fun _ _ _ h => h) hD (Below.refl _ _) (.inl ⟨by kernel_rfl, ?y14_2b1⟩) ?n14_2b1
              case y14_2b1 => intro w' _; go_simp; with_reducible rfl
              clear hD; intro hD
              simp only [Act.put, sqA, sqB, sqC]
              refine wpAnyK_one (i := 3) (fuel := 1) (by kernel_rfl) rfl hD ?_
              clear hD; intro K3 hK3
              go_wp2_with fail
              refine (h_after (blks st0 i P) ((P.drop (64 * i)).take 64) H o c _ ((show BytesAt wr.drew _ _ _ _ from HBY.out).front 64 hr64)).mono ?_
              rintro e w6 ⟨rfl, hb6⟩
              have HX6 := Lib.hid (show RowS w6 X (blks st0 i P) from (show RowS wr.drew X (blks st0 i P) from HX.out).kept hb6 hxs)
              have HBY6 := Lib.hid ((show BytesAt wr.drew _ _ _ _ from HBY.out).kept hb6)
              have HB6 := Lib.hid (show Below H w w6 from HB.out.drew.trans (hb6.mono (by show H ≤ wr.heap.size; omega)))
              have HS6 := Lib.hid (show X < w6.heap.size from HX6.out.lt)
              have HBW := Lib.hid hb6
              clear hb6
              go_wp2
              refine hK3 _ _ (by exact HBW.out) ?_; clear hK3; intro hS_14_3 hD
              refine wpAnyK_oneT (i := 4) (fuel := 0) (by kernel_rfl) rfl hD (by kernel_rfl) ?_
              clear hD; intro K4 hK4
              rw [← blks_succ]
              obtain ⟨Y, hY⟩ : ∃ Y, blks st0 (i + 1) P = Y := ⟨_, rfl⟩
              have HY := Lib.hid hY
              rw [hY]
              clear hY
              refine wpList_store_rowTo rfl 197 _ _ rfl rfl X Y.arr rfl rfl 197 _ HX6.out (by kernel_rfl) (by kernel_rfl) (W8.arr_one _) ?_
              obtain ⟨w7, hw7⟩ : ∃ w7, w6.setRow X Y.arr = w7 := ⟨_, rfl⟩
              have HX7 := Lib.hid (show RowS w7 X Y from hw7 ▸ setRow_heap _ _ _ _ _ _ HX6.out)
              have HB7 := Lib.hid (show Below X w6 w7 from hw7 ▸ below_setRow (Below.refl _ _) (Nat.le_refl _) _)
              have HS7 := Lib.hid (show X < w7.heap.size from HX7.out.lt)
              rw [hw7]
              clear hw7
              go_wp2
              refine hK4 _ _ ?_; clear hK4; intro hD
              refine wpAnyK_done (by kernel_rfl) ?_ 0
              clear hD
              go_wp2
              refine ⟨?_, ?_⟩
              · have hby7 := HBY6.out.keptB HB7.out hHX
                have hfr := hby7.from 64 hr64
                rw [List.drop_drop] at hfr
                have hxi : RowS w7 X (blks st0 (i + 1) P) := by rw [HY.out]; exact HX7.out
                have hbi : Below H w w7 := HB6.out.trans (HB7.out.mono (by omega))
                have hl1 : Ln - 64 * (i + 1) = rem - 64 := by omega
                have hd1 : 64 * i + 64 = 64 * (i + 1) := by omega
                rw [hd1] at hfr
                by_cases hc : c = 64
                · rw [if_pos hc] at hfr ⊢
                  exact ⟨i + 1, o, c - 64, by omega, by rw [hl1], by rw [hl1]; exact hfr, hxi, hbi, HS7.out⟩
                · rw [if_neg hc] at hfr ⊢
                  exact ⟨i + 1, o + 64, c - 64, by omega, by rw [hl1], by rw [hl1]; exact hfr, hxi, hbi, HS7.out⟩
              · simp [sliceLen]; omega
            · have hr0 : ¬ (0 : Int) < (rem : Int) := by omega
              obtain ⟨F, hF⟩ : ∃ F, blks st0 i P = F := ⟨_, rfl⟩
              have HF := Lib.hid (show r = bstr (F.ws.flatMap wo) from by
                rw [← HR.out, ← hF]; unfold shaL; rw [HPP.out, HLP.out, show Ln / 64 = i from by omega])
              rw [hF] at HX
              clear hF h0 HBY
              obtain ⟨G, hG⟩ : ∃ G, wr.heap.size = G := ⟨_, rfl⟩
              have hHG : H < G := by rw [← hG]; omega
              go_wp2_with (refine wpList_load_row rfl 197 _ rfl X rfl 197 F.arr (0, 0) _ HX.out Tryz.underlying197 rfl (by kernel_rfl) ?_)
              trace_state
              go_loopw [7, 55] (fun v x wr => ∃ i : Nat, i ≤ 8 ∧ x = .int .i64 i ∧ wr.ownsRow G 5 1 v (4 * i) (byteCells ((F.ws.take i).flatMap wo)) ∧ Below H w wr ∧ G ≤ wr.heap.size) (fun _ x _ => 8 - (RowKit.intOf x).toNat)
              case atStart => exact ⟨0, by omega, rfl, World.ownsRow_nil _ _ _ _, HB.out, by omega⟩
              case round =>
                obtain ⟨i2, hi2, rfl, hown, hb, hg⟩ := hrel
                have HO := Lib.hid hown
                have HB2 := Lib.hid hb
                clear hown hb
                by_cases hlt : i2 < 8
                · have hi2i : (i2 : Int) < 8 := by omega
                  have hidx := fun w => index_word F i2 hlt w
                  have HTK := Lib.hid (ws_take F i2 hlt)
                  obtain ⟨x, hx⟩ : ∃ x, F.at i2 = x := ⟨_, rfl⟩
                  rw [hx] at hidx HTK
                  clear hx
                  have HWC := Lib.hid (word_cells x)
                  go_wp2_with (at_builtin; refine wpList_append_word _ rfl (.tmp 58) (.tmp 70) rfl G (4 * i2) _ ((F.ws.take i2).flatMap wo) rfl (HO.out.alloc _) (by omega) wr.heap.size 4 x rfl (by rw [← HWC.out]; exact heap_alloc_new _ _) (by simp; omega) ?_)
                  intro v3 w8 ho8 hb8
                  have HO8 := Lib.hid ho8
                  have HB8 := Lib.hid (show Below H w w8 from (HB2.out.alloc (by omega) _).trans (hb8.mono (by omega)))
                  have HG8 := Lib.hid (show G ≤ w8.heap.size from by have := hb8.size; simp at this; omega)
                  clear ho8 hb8 hidx
                  go_wp2
                  go_roundw
                  case rel =>
                    refine ⟨i2 + 1, by omega, by go_num, ?_, HB8.out, HG8.out⟩
                    rw [HTK.out]
                    exact HO8.out
                  case measure => simp [RowKit.intOf]; omega
                · obtain rfl : i2 = 8 := by omega
                  obtain ⟨A, c7, rfl, hby⟩ := own_bytes HO.out (show ((F.ws.take 8).flatMap wo).length = 4 * 8 from by simp [W8.ws, wo])
                  have hconv := hby.conv 148 9 5 Tryz.underlying148 Tryz.underlying5 Tryz.underlying9
                  have hw8 : F.ws.take 8 = F.ws := rfl
                  rw [hw8, ← HF.out] at hconv
                  clear hby hw8
                  go_wp2
                  go_ret
                  exact ⟨rfl, by rw [hH]; exact HB2.out⟩
end Go.Proofs.YtpdejgdkpghjhaaGreatDoor
/- Walk: the reference's schedule. -/
set_option linter.unusedVariables false
set_option linter.unusedSimpArgs false
namespace Go.Proofs.YtpdejgdkpghjhaaGreatDoor
open Go.RowKit Go.Lib
theorem word_info : (Tryz.prog.info? 195).map (fun i => (i.zero, i.size, i.bytes)) = some (some (.int .u32 0), 1, 4) := by kernel_rfl
theorem make_words (n : Nat) (hn : n ≤ 1000000) (w : World) : (Instr.makeSlice 204 (.int .i64 n) (.int .i64 n)).run Tryz.prog w = .ok (.slice (some ⟨w.heap.size, 0, none⟩) n n) (w.alloc (.cells (madeCells #[.int .u32 0] n) 195)) := by
  obtain ⟨i0, hi, hz0, hz1, hz2⟩ := info_parts word_info
  have h := run_make (P := Tryz.prog) w 204 195 i0 (.int .u32 0) Tryz.underlying204 hi hz0 .i64 .i64 (n : Int) (n : Int) (by omega) (Int.le_refl _) (by rw [hz2]; omega) (by omega)
  rw [h, hz1, Int.toNat_natCast, Nat.mul_one]
  rfl
theorem index_byte_run {op : Oper} {ρ : Operand → Value} {w : World} (x i : Operand) (ho : op.op = .index 9 x i) (s : ByteArray) (p : Nat) (hx : ρ x = .string s) (hi : ρ i = .int .i64 (p : Int)) (hp : p < s.size) {v : Nat} (hv : (s.data.toList.getD p 0).toNat = v) :
    (execOp ρ op).run Tryz.prog w = .ok (.value (.int .u8 (v : Int))) w := by
  subst hv
  have h1 : s[p]? = some s[p] := by simp [hp]
  have h2 : s.data.toList.getD p 0 = s[p] := data_getD s p hp
  rw [h2]
  unfold execOp
  simp [ho, hx, hi, Instr.index, asIntOf, run_underlying Tryz.underlying9, h1, Result.andThen]
theorem sched_val2 (X16 X15 X7 X2 : BitVec 32) : (((wi X16 + bits .xor .u32 (bits .xor .u32 (wi (rr X15 7)) (wi (rr X15 18))) (wi X15 / 8)) % 4294967296 + wi X7) % 4294967296 + bits .xor .u32 (bits .xor .u32 (wi (rr X2 17)) (wi (rr X2 19))) (wi X2 / 1024)) % 4294967296 = wi (X16 + sg0 X15 + X7 + sg1 X2) := by
  rw [show (8 : Int) = 2 ^ 3 from rfl, show (1024 : Int) = 2 ^ 10 from rfl, wi_div, wi_div, wi_xor, wi_xor, wi_xor, wi_xor, mod_val, mod_val, mod_val]
  rfl
def pb (m : List UInt8) (i : Nat) : Nat → Nat
  | 0 => 0
  | q + 1 => pb m i q * 256 + (m.getD (4 * i + q) 0).toNat
theorem pb_four (m : List UInt8) (i : Nat) : BitVec.ofNat 32 (pb m i 4) = wd m i := by simp [pb, wd]
theorem step_val (p b : Nat) : (wi (BitVec.ofNat 32 p) * 256 % 4294967296 + (b : Int)) % 4294967296 = wi (BitVec.ofNat 32 (p * 256 + b)) := by
  unfold wi
  rw [BitVec.toNat_ofNat, BitVec.toNat_ofNat]
  omega
def wq (m : List UInt8) (i q : Nat) (j : Nat) : BitVec 32 := if j = i then BitVec.ofNat 32 (pb m i q) else wz m i j
theorem wq_zero (m : List UInt8) (i : Nat) : wq m i 0 = wz m i := by
  funext j
  unfold wq wz
  by_cases h : j = i
  · subst h; rw [if_pos rfl, if_neg (Nat.lt_irrefl _)]; rfl
  · rw [if_neg h]
theorem wq_four (m : List UInt8) (i : Nat) (h : i < 16) : wq m i 4 = wz m (i + 1) := by
  funext j
  unfold wq wz
  by_cases e : j = i
  · subst e; rw [if_pos rfl, if_pos (Nat.lt_succ_self _), pb_four, wv_low m h]
  · rw [if_neg e]
    by_cases h2 : j < i
    · rw [if_pos h2, if_pos (by omega)]
    · rw [if_neg h2, if_neg (by omega)]
set_option maxRecDepth 100000 in
set_option maxHeartbeats 2000000 in
theorem r05_schedule (s : ByteArray) (hs : s.size = 64) (w : World) : Calls Tryz.prog 224 #[.string s] w fun e w' => e = .returned (.slice (some ⟨w.heap.size, 0, none⟩) 64 64) ∧ RowW w' w.heap.size 64 195 (wv s.data.toList) ∧ Below w.heap.size w w' := by
  obtain ⟨m, hm⟩ : ∃ m, s.data.toList = m := ⟨_, rfl⟩
  have HM := Lib.hid hm
  rw [hm]
  clear hm
  have hmk : (Instr.makeSlice 204 (.int .i64 64) (.int .i64 64)).run Tryz.prog w = .ok (.slice (some ⟨w.heap.size, 0, none⟩) 64 64) (w.alloc (.cells (madeCells #[.int .u32 0] 64) 195)) := make_words 64 (by decide) w
  obtain ⟨w1, hw1⟩ : ∃ w1, w.alloc (.cells (madeCells #[.int .u32 0] 64) 195) = w1 := ⟨_, rfl⟩
  have HR1 := Lib.hid (show RowW w1 w.heap.size 64 195 (wz m 0) from by
    rw [show wz m 0 = fun _ => 0 from funext fun j => rfl]; unfold RowW; rw [wa_zero, ← hw1]; exact heap_alloc_new _ _)
  have HB1 := Lib.hid (show Below w.heap.size w w1 from hw1 ▸ (Below.refl _ _).alloc (Nat.le_refl _) _)
  rw [hw1] at hmk
  clear hw1
  obtain ⟨H, hH⟩ : ∃ H, w.heap.size = H := ⟨_, rfl⟩
  rw [hH] at HR1 HB1 hmk ⊢
  go_enter Tryz.func224, Tryz.ntmps224
  go_wp2
  clear hmk
  go_loopw [4] (fun i wr => ∃ k : Nat, k ≤ 16 ∧ i = .int .i64 k ∧ RowW wr H 64 195 (wz m k) ∧ Below H w wr) (fun i _ => 16 - (RowKit.intOf i).toNat)
  case atStart => exact ⟨0, Nat.zero_le _, rfl, HR1.out, HB1.out⟩
  case round =>
    obtain ⟨k, hk, rfl, hR, hBR⟩ := hrel
    have HR := Lib.hid hR
    have HB := Lib.hid hBR
    clear hR hBR
    by_cases hlt : k < 16
    · have hlti : (k : Int) < 16 := by omega
      have hk64 : (k : Int) < 64 := by omega
      go_wp2
      go_loopw [5] (fun i wr => ∃ q : Nat, q ≤ 4 ∧ i = .int .i64 q ∧ RowW wr H 64 195 (wq m k q) ∧ Below H w wr) (fun i _ => 4 - (RowKit.intOf i).toNat)
      case atStart => exact ⟨0, Nat.zero_le _, rfl, by rw [wq_zero]; exact HR.out, HB.out⟩
      case round =>
        obtain ⟨q, hq, rfl, hR, hBR⟩ := hrel
        have HR := Lib.hid hR
        have HB := Lib.hid hBR
        clear hR hBR
        by_cases hq4 : q < 4
        · have hq4i : (q : Int) < 4 := by omega
          have c0 := HR.out.drew.cell (show k < 64 by omega)
          have hf := HR.out.drew.free k
          rw [show wq m k q k = BitVec.ofNat 32 (pb m k q) from by unfold wq; rw [if_pos rfl]] at c0
          obtain ⟨y, hy⟩ : ∃ y, BitVec.ofNat 32 (pb m k q) = y := ⟨_, rfl⟩
          rw [hy] at c0
          have HY := Lib.hid hy
          clear hy
          obtain ⟨p, hp⟩ : ∃ p, 4 * k + q = p := ⟨_, rfl⟩
          have hpi : 4 * (k : Int) + (q : Int) = (p : Int) := by omega
          have hp64 : (p : Int) < 64 := by omega
          have hwa : IntKind.i64.wrap (4 * (k : Int)) = 4 * (k : Int) := by rw [IntKind.wrap_i64]; omega
          have hwb : IntKind.i64.wrap (p : Int) = (p : Int) := by rw [IntKind.wrap_i64]; omega
          have HPS := Lib.hid (show p < s.size from by omega)
          obtain ⟨x, hx⟩ : ∃ x, (m.getD p 0).toNat = x := ⟨_, rfl⟩
          have hx255 : x ≤ 255 := by rw [← hx]; have := (m.getD p 0).toNat_lt; omega
          have HXX := Lib.hid hx
          have HP := Lib.hid hp
          clear hx hp
          obtain ⟨wd, hwd⟩ : ∃ wd, wr.drew = wd := ⟨_, rfl⟩
          rw [hwd] at c0 hf
          go_wp2
          refine wp_region_K 16 (Eq wd) (by kernel_rfl) ?_
          intro hD
          rw [hwd]
          refine wpAnyK_pureD (i := 0) (d := some 20) (v := ?v8_0b1) (fuel := 16) rfl (by kernel_rfl) (by kernel_rfl) (fun _ _ _ h => h) hD rfl (.inl ⟨by kernel_rfl, ?y8_0b1⟩) ?n8_0b1
          case y8_0b1 => intro w' _; go_simp; with_reducible rfl
          clear hD; intro hD
          simp only [Act.put, sqA, sqB, sqC]
          refine wpAnyK_pureD (i := 1) (d := some 21) (v := ?v8_1b1) (fuel := 15) rfl (by kernel_rfl) (by kernel_rfl) (fun _ _ _ h => h) hD rfl (.inl ⟨by kernel_rfl, ?y8_1b1⟩) ?n8_1b1
          case y8_1b1 => intro w' _; go_simp; with_reducible rfl
          clear hD; intro hD
          simp only [Act.put, sqA, sqB, sqC]
          refine wpAnyK_pureD (i := 2) (d := some 22) (v := ?v8_2b1) (fuel := 14) rfl (by kernel_rfl) (by kernel_rfl) (fun _ _ _ h => h) hD rfl (.inl ⟨by kernel_rfl, ?y8_2b1⟩) ?n8_2b1
          case y8_2b1 => intro w' _; go_simp; with_reducible rfl
          clear hD; intro hD
          simp only [Act.put, sqA, sqB, sqC]
          refine wpAnyK_pureD (i := 3) (d := some 23) (v := ?v8_3b1) (fuel := 13) rfl (by kernel_rfl) (by kernel_rfl) (fun _ _ _ h => h) hD rfl (.inl ⟨by kernel_rfl, ?y8_3b1⟩) ?n8_3b1
          case y8_3b1 => intro w' _; go_simp; with_reducible rfl
          clear hD; intro hD
          simp only [Act.put, sqA, sqB, sqC]
          refine wpAnyK_pureD (i := 4) (d := some 24) (v := ?v8_4b1) (fuel := 12) rfl (by kernel_rfl) (by kernel_rfl) (fun _ _ _ h => h) hD rfl (.inl ⟨by kernel_rfl, ?y8_4b1⟩) ?n8_4b1
          case y8_4b1 => intro w' _; go_simp; with_reducible rfl
          clear hD; intro hD
          simp only [Act.put, sqA, sqB, sqC]
          refine wpAnyK_takeD (i := 5) (d := some 25) (v := ?v8_5b1) (fuel := 11) rfl (by kernel_rfl) (by kernel_rfl) (by kernel_rfl) (fun _ _ _ h => h) hD rfl (.inl ⟨by kernel_rfl, ?y8_5b1⟩) ?n8_5b1
          case y8_5b1 => intro w' hS'; have e0 := (hS' ▸ c0); go_simp; with_reducible rfl
          clear hD; intro hD
          simp only [Act.put, sqA, sqB, sqC]
          refine wpAnyK_pureD (i := 6) (d := some 26) (v := ?v8_6b1) (fuel := 10) rfl (by kernel_rfl) (by kernel_rfl) (fun _ _ _ h => h) hD rfl (.inl ⟨by kernel_rfl, ?y8_6b1⟩) ?n8_6b1
          case y8_6b1 => intro w' _; go_simp; with_reducible rfl
          clear hD; intro hD
          simp only [Act.put, sqA, sqB, sqC]
          refine wpAnyK_pureD (i := 7) (d := some 27) (v := ?v8_7b1) (fuel := 9) rfl (by kernel_rfl) (by kernel_rfl) (fun _ _ _ h => h) hD rfl (.inl ⟨by kernel_rfl, ?y8_7b1⟩) ?n8_7b1
          case y8_7b1 => intro w' _; go_simp; with_reducible rfl
          clear hD; intro hD
          simp only [Act.put, sqA, sqB, sqC]
          refine wpAnyK_pureD (i := 8) (d := some 28) (v := ?v8_8b1) (fuel := 8) rfl (by kernel_rfl) (by kernel_rfl) (fun _ _ _ h => h) hD rfl (.inl ⟨by kernel_rfl, ?y8_8b1⟩) ?n8_8b1
          case y8_8b1 => intro w' _; go_simp; with_reducible rfl
          clear hD; intro hD
          simp only [Act.put, sqA, sqB, sqC]
          refine wpAnyK_pureD (i := 9) (d := some 29) (v := ?v8_9b1) (fuel := 7) rfl (by kernel_rfl) (by kernel_rfl) (fun _ _ _ h => h) hD rfl (.inl ⟨by kernel_rfl, ?y8_9b1⟩) ?n8_9b1
          case y8_9b1 => intro w' _; go_simp; with_reducible rfl
          clear hD; intro hD
          simp only [Act.put, sqA, sqB, sqC]
          refine wpAnyK_pureD (i := 10) (d := some 30) (v := ?v8_10b1) (fuel := 6) rfl (by kernel_rfl) (by kernel_rfl) (fun _ _ _ h => h) hD rfl (.inl ⟨by kernel_rfl, ?y8_10b1⟩) ?n8_10b1
          case y8_10b1 => intro w' _; go_simp; with_reducible rfl
          clear hD; intro hD
          simp only [Act.put, sqA, sqB, sqC]
          refine wpAnyK_pureD (i := 11) (d := some 31) (v := ?v8_11b1) (fuel := 5) rfl (by kernel_rfl) (by kernel_rfl) (fun _ _ _ h => h) hD rfl (.inl ⟨by kernel_rfl, ?y8_11b1⟩) ?n8_11b1
          case y8_11b1 => intro w' _; go_simp; with_reducible rfl
          clear hD; intro hD
          simp only [Act.put, sqA, sqB, sqC]
          refine wpAnyK_takeD (i := 12) (d := some 32) (v := (.int .u8 (x : Int))) (fuel := 4) rfl (by kernel_rfl) (by kernel_rfl) (by kernel_rfl) (fun _ _ _ h => h) hD rfl (.inl ⟨by kernel_rfl, ?y8_12b1⟩) ?n8_12b1
          case y8_12b1 =>
            intro w' hS'
            exact index_byte_run (.tmp 27) (.tmp 31) rfl s p rfl rfl HPS.out (by rw [HM.out]; exact HXX.out)
          clear hD; intro hD
          simp only [Act.put, sqA, sqB, sqC]
          refine wpAnyK_pureD (i := 13) (d := some 33) (v := ?v8_13b1) (fuel := 3) rfl (by kernel_rfl) (by kernel_rfl) (fun _ _ _ h => h) hD rfl (.inl ⟨by kernel_rfl, ?y8_13b1⟩) ?n8_13b1
          case y8_13b1 => intro w' _; go_simp; with_reducible rfl
          clear hD; intro hD
          simp only [Act.put, sqA, sqB, sqC]
          refine wpAnyK_pureD (i := 14) (d := some 34) (v := ?v8_14b1) (fuel := 2) rfl (by kernel_rfl) (by kernel_rfl) (fun _ _ _ h => h) hD rfl (.inl ⟨by kernel_rfl, ?y8_14b1⟩) ?n8_14b1
          case y8_14b1 => intro w' _; go_simp; with_reducible rfl
          clear hD; intro hD
          simp only [Act.put, sqA, sqB, sqC]
          refine wpAnyK_pureD (i := 15) (d := some 35) (v := ?v8_15b1) (fuel := 1) rfl (by kernel_rfl) (by kernel_rfl) (fun _ _ _ h => h) hD rfl (.inl ⟨by kernel_rfl, ?y8_15b1⟩) ?n8_15b1
          case y8_15b1 => intro w' _; go_simp; with_reducible rfl
          clear hD; intro hD
          simp only [Act.put, sqA, sqB, sqC]
          refine wpAnyK_oneT (i := 16) (fuel := 0) (by kernel_rfl) rfl hD (by kernel_rfl) ?_
          clear hD; intro K16 hK16
          go_wp2
          refine hK16 _ _ ?_; clear hK16; intro hD
          refine wpAnyK_done (by kernel_rfl) ?_ 0
          clear hD
          rw [← HY.out, step_val]
          obtain ⟨V, hV⟩ : ∃ V, BitVec.ofNat 32 (pb m k q * 256 + x) = V := ⟨_, rfl⟩
          have HV := Lib.hid hV
          rw [hV, HY.out]
          clear hV
          go_wp2
          go_roundw
          case rel =>
            refine ⟨q + 1, by omega, by go_num, ?_, ?_⟩
            · rw [← hwd]
              refine (HR.out.drew.set k V).congr fun j hj => ?_
              unfold wq
              by_cases e : j = k
              · rw [if_pos e, if_pos e, ← HV.out, ← HXX.out, ← HP.out]; rfl
              · rw [if_neg e, if_neg e, if_neg e]
            · rw [← hwd]; exact HB.out.drew.setCell (Nat.le_refl _) _
          case measure => simp [RowKit.intOf]; omega
        · have HQ := Lib.hid (show q = 4 from by omega)
          have hq4i : ¬ ((q : Int) < 4) := by omega
          have HR2 := Lib.hid (show RowW wr H 64 195 (wz m (k + 1)) from by rw [← wq_four m k hlt, ← HQ.out]; exact HR.out)
          clear hq hq4 HQ HR
          go_wp2
          go_roundw
          case rel => exact ⟨k + 1, by omega, by go_num, HR2.out, HB.out⟩
          case measure => simp [RowKit.intOf]; omega
    · have HK := Lib.hid (show k = 16 from by omega)
      have hge : ¬ ((k : Int) < 16) := by omega
      have HR2 := Lib.hid (show RowW wr H 64 195 (wz m 16) from by rw [← HK.out]; exact HR.out)
      clear hk hlt HK HR
      go_wp2
      go_loopw [6] (fun i wr => ∃ k : Nat, 16 ≤ k ∧ k ≤ 64 ∧ i = .int .i64 k ∧ RowW wr H 64 195 (wz m k) ∧ Below H w wr) (fun i _ => 64 - (RowKit.intOf i).toNat)
      case atStart => exact ⟨16, Nat.le_refl _, by omega, rfl, HR2.out, HB.out⟩
      case round =>
        obtain ⟨k, hk0, hk, rfl, hR, hBR⟩ := hrel
        have HR := Lib.hid hR
        have HB := Lib.hid hBR
        clear hR hBR
        by_cases hlt : k < 64
        · have hlti : (k : Int) < 64 := by omega
          obtain ⟨q15, hq15⟩ : ∃ q, k - 15 = q := ⟨_, rfl⟩
          obtain ⟨q2, hq2⟩ : ∃ q, k - 2 = q := ⟨_, rfl⟩
          obtain ⟨q16, hq16⟩ : ∃ q, k - 16 = q := ⟨_, rfl⟩
          obtain ⟨q7, hq7⟩ : ∃ q, k - 7 = q := ⟨_, rfl⟩
          have i15 : (k : Int) - 15 = (q15 : Int) := by omega
          have i2 : (k : Int) - 2 = (q2 : Int) := by omega
          have i16 : (k : Int) - 16 = (q16 : Int) := by omega
          have i7 : (k : Int) - 7 = (q7 : Int) := by omega
          have l15 : (q15 : Int) < 64 := by omega
          have l2 : (q2 : Int) < 64 := by omega
          have l16 : (q16 : Int) < 64 := by omega
          have l7 : (q7 : Int) < 64 := by omega
          have v15 : IntKind.i64.wrap (q15 : Int) = (q15 : Int) := by rw [IntKind.wrap_i64]; omega
          have v2 : IntKind.i64.wrap (q2 : Int) = (q2 : Int) := by rw [IntKind.wrap_i64]; omega
          have v16 : IntKind.i64.wrap (q16 : Int) = (q16 : Int) := by rw [IntKind.wrap_i64]; omega
          have v7 : IntKind.i64.wrap (q7 : Int) = (q7 : Int) := by rw [IntKind.wrap_i64]; omega
          have HV := Lib.hid (show wv m k = wz m k q16 + sg0 (wz m k q15) + wz m k q7 + sg1 (wz m k q2) from by
            unfold wz; rw [if_pos (by omega), if_pos (by omega), if_pos (by omega), if_pos (by omega), wv_high m hk0, hq15, hq2, hq16, hq7])
          have c15 := HR.out.drew.cell (show q15 < 64 by omega)
          have c2 := HR.out.drew.cell (show q2 < 64 by omega)
          have L16 := Lib.hid (show q16 < 64 from by omega)
          have L7 := Lib.hid (show q7 < 64 from by omega)
          obtain ⟨X15, hX15⟩ : ∃ X, wz m k q15 = X := ⟨_, rfl⟩
          obtain ⟨X2, hX2⟩ : ∃ X, wz m k q2 = X := ⟨_, rfl⟩
          obtain ⟨X16, hX16⟩ : ∃ X, wz m k q16 = X := ⟨_, rfl⟩
          obtain ⟨X7, hX7⟩ : ∃ X, wz m k q7 = X := ⟨_, rfl⟩
          rw [hX15, hX2, hX16, hX7] at HV
          rw [hX15] at c15
          rw [hX2] at c2
          have HX16 := Lib.hid hX16
          have HX7 := Lib.hid hX7
          clear hX15 hX2 hX16 hX7 hq15 hq2 hq16 hq7
          obtain ⟨wd, hwd⟩ : ∃ wd, wr.drew = wd := ⟨_, rfl⟩
          have HRD := Lib.hid (show RowW wd H 64 195 (wz m k) from by rw [← hwd]; exact HR.out.drew)
          have HBD := Lib.hid (show Below H w wd from by rw [← hwd]; exact HB.out.drew)
          rw [hwd] at c15 c2
          go_wp2
          refine wp_region_K 12 (Eq wd) (by kernel_rfl) ?_
          intro hD
          rw [hwd]
          refine wpAnyK_pureD (i := 0) (d := some 40) (v := ?v12_0b2) (fuel := 11) rfl (by kernel_rfl) (by kernel_rfl) (fun _ _ _ h => h) hD rfl (.inl ⟨by kernel_rfl, ?y12_0b2⟩) ?n12_0b2
          case y12_0b2 => intro w' _; go_simp; with_reducible rfl
          clear hD; intro hD
          simp only [Act.put, sqA, sqB, sqC]
          refine wpAnyK_pureD (i := 1) (d := some 41) (v := ?v12_1b2) (fuel := 10) rfl (by kernel_rfl) (by kernel_rfl) (fun _ _ _ h => h) hD rfl (.inl ⟨by kernel_rfl, ?y12_1b2⟩) ?n12_1b2
          case y12_1b2 => intro w' _; go_simp; with_reducible rfl
          clear hD; intro hD
          simp only [Act.put, sqA, sqB, sqC]
          refine wpAnyK_pureD (i := 2) (d := some 42) (v := ?v12_2b2) (fuel := 9) rfl (by kernel_rfl) (by kernel_rfl) (fun _ _ _ h => h) hD rfl (.inl ⟨by kernel_rfl, ?y12_2b2⟩) ?n12_2b2
          case y12_2b2 => intro w' _; go_simp; with_reducible rfl
          clear hD; intro hD
          simp only [Act.put, sqA, sqB, sqC]
          refine wpAnyK_pureD (i := 3) (d := some 43) (v := ?v12_3b2) (fuel := 8) rfl (by kernel_rfl) (by kernel_rfl) (fun _ _ _ h => h) hD rfl (.inl ⟨by kernel_rfl, ?y12_3b2⟩) ?n12_3b2
          case y12_3b2 => intro w' _; go_simp; with_reducible rfl
          clear hD; intro hD
          simp only [Act.put, sqA, sqB, sqC]
          refine wpAnyK_takeSD (i := 4) (d := some 44) (v := ?v12_4b2) (fuel := 7) rfl (by kernel_rfl) (by kernel_rfl) (by kernel_rfl) (fun _ _ _ h => h) hD rfl (.inl ⟨by kernel_rfl, ?y12_4b2⟩) ?n12_4b2
          case y12_4b2 => intro w' hS'; have e0 := (hS' ▸ c15); have e1 := (hS' ▸ c2); go_simp; with_reducible rfl
          clear hD; intro hD
          simp only [Act.put, sqA, sqB, sqC]
          refine wpAnyK_pureD (i := 5) (d := some 45) (v := ?v12_5b2) (fuel := 6) rfl (by kernel_rfl) (by kernel_rfl) (fun _ _ _ h => h) hD rfl (.inl ⟨by kernel_rfl, ?y12_5b2⟩) ?n12_5b2
          case y12_5b2 => intro w' _; go_simp; with_reducible rfl
          clear hD; intro hD
          simp only [Act.put, sqA, sqB, sqC]
          refine wpAnyK_pureD (i := 6) (d := some 46) (v := ?v12_6b2) (fuel := 5) rfl (by kernel_rfl) (by kernel_rfl) (fun _ _ _ h => h) hD rfl (.inl ⟨by kernel_rfl, ?y12_6b2⟩) ?n12_6b2
          case y12_6b2 => intro w' _; go_simp; with_reducible rfl
          clear hD; intro hD
          simp only [Act.put, sqA, sqB, sqC]
          refine wpAnyK_pureD (i := 7) (d := some 47) (v := ?v12_7b2) (fuel := 4) rfl (by kernel_rfl) (by kernel_rfl) (fun _ _ _ h => h) hD rfl (.inl ⟨by kernel_rfl, ?y12_7b2⟩) ?n12_7b2
          case y12_7b2 => intro w' _; go_simp; with_reducible rfl
          clear hD; intro hD
          simp only [Act.put, sqA, sqB, sqC]
          refine wpAnyK_pureD (i := 8) (d := some 48) (v := ?v12_8b2) (fuel := 3) rfl (by kernel_rfl) (by kernel_rfl) (fun _ _ _ h => h) hD rfl (.inl ⟨by kernel_rfl, ?y12_8b2⟩) ?n12_8b2
          case y12_8b2 => intro w' _; go_simp; with_reducible rfl
          clear hD; intro hD
          simp only [Act.put, sqA, sqB, sqC]
          refine wpAnyK_takeSD (i := 9) (d := some 49) (v := ?v12_9b2) (fuel := 2) rfl (by kernel_rfl) (by kernel_rfl) (by kernel_rfl) (fun _ _ _ h => h) hD rfl (.inl ⟨by kernel_rfl, ?y12_9b2⟩) ?n12_9b2
          case y12_9b2 => intro w' hS'; have e0 := (hS' ▸ c15); have e1 := (hS' ▸ c2); go_simp; with_reducible rfl
          clear hD; intro hD
          simp only [Act.put, sqA, sqB, sqC]
          refine wpAnyK_one (i := 10) (fuel := 1) (by kernel_rfl) rfl hD ?_
          clear hD; intro K10 hK10
          go_wp2
          refine hK10 _ _ (by rfl) ?_; clear hK10; intro hS_12_10 hD
          refine wpAnyK_one (i := 11) (fuel := 0) (by kernel_rfl) rfl hD ?_
          clear hD; intro K11 hK11
          go_wp2
          refine hK11 _ _ (by rfl) ?_; clear hK11; intro hS_12_11 hD
          refine wpAnyK_done (by kernel_rfl) ?_ 0
          clear hD
          clear c15 c2 hwd
          go_wp2_with fail
          refine (r05_right X15 7 (by decide) (by decide) _).mono ?_
          rintro e' w1 ⟨rfl, hb1⟩
          go_wp2_with fail
          refine (r05_right X15 18 (by decide) (by decide) _).mono ?_
          rintro e' w2 ⟨rfl, hb2⟩
          go_wp2_with fail
          refine (r05_right X2 17 (by decide) (by decide) _).mono ?_
          rintro e' w3 ⟨rfl, hb3⟩
          go_wp2_with fail
          refine (r05_right X2 19 (by decide) (by decide) _).mono ?_
          rintro e' w4 ⟨rfl, hb4⟩
          have HB4 := Lib.hid (show Below wd.heap.size wd w4 from ((hb1.trans (hb2.mono hb1.size)).trans (hb3.mono (by have := hb1.size; have := hb2.size; omega))).trans (hb4.mono (by have := hb1.size; have := hb2.size; have := hb3.size; omega)))
          clear hb1 hb2 hb3 hb4
          have HR4 := Lib.hid (HRD.out.kept HB4.out HRD.out.lt)
          have HBB := Lib.hid (HBD.out.trans (HB4.out.mono (by have := HRD.out.lt; omega)))
          have c16 := HR4.out.drew.cell L16.out
          have c7 := HR4.out.drew.cell L7.out
          have hf := HR4.out.drew.free k
          have hcw := HR4.out.drew.cell (show k < 64 by omega)
          rw [HX16.out] at c16
          rw [HX7.out] at c7
          obtain ⟨we, hwe⟩ : ∃ we, w4.drew = we := ⟨_, rfl⟩
          rw [hwe] at c16 c7 hf hcw
          go_wp2
          refine wp_region_K 18 (Eq we) (by kernel_rfl) ?_
          intro hD
          rw [hwe]
          refine wpAnyK_pureD (i := 0) (d := some 66) (v := ?v15_0b3) (fuel := 18) rfl (by kernel_rfl) (by kernel_rfl) (fun _ _ _ h => h) hD rfl (.inl ⟨by kernel_rfl, ?y15_0b3⟩) ?n15_0b3
          case y15_0b3 => intro w' _; go_simp; with_reducible rfl
          clear hD; intro hD
          simp only [Act.put, sqA, sqB, sqC]
          refine wpAnyK_pureD (i := 1) (d := some 67) (v := ?v15_1b3) (fuel := 17) rfl (by kernel_rfl) (by kernel_rfl) (fun _ _ _ h => h) hD rfl (.inl ⟨by kernel_rfl, ?y15_1b3⟩) ?n15_1b3
          case y15_1b3 => intro w' _; go_simp; with_reducible rfl
          clear hD; intro hD
          simp only [Act.put, sqA, sqB, sqC]
          refine wpAnyK_pureD (i := 2) (d := some 68) (v := ?v15_2b3) (fuel := 16) rfl (by kernel_rfl) (by kernel_rfl) (fun _ _ _ h => h) hD rfl (.inl ⟨by kernel_rfl, ?y15_2b3⟩) ?n15_2b3
          case y15_2b3 => intro w' _; go_simp; with_reducible rfl
          clear hD; intro hD
          simp only [Act.put, sqA, sqB, sqC]
          refine wpAnyK_pureD (i := 3) (d := some 69) (v := ?v15_3b3) (fuel := 15) rfl (by kernel_rfl) (by kernel_rfl) (fun _ _ _ h => h) hD rfl (.inl ⟨by kernel_rfl, ?y15_3b3⟩) ?n15_3b3
          case y15_3b3 => intro w' _; go_simp; with_reducible rfl
          clear hD; intro hD
          simp only [Act.put, sqA, sqB, sqC]
          refine wpAnyK_pureD (i := 4) (d := some 70) (v := ?v15_4b3) (fuel := 14) rfl (by kernel_rfl) (by kernel_rfl) (fun _ _ _ h => h) hD rfl (.inl ⟨by kernel_rfl, ?y15_4b3⟩) ?n15_4b3
          case y15_4b3 => intro w' _; go_simp; with_reducible rfl
          clear hD; intro hD
          simp only [Act.put, sqA, sqB, sqC]
          refine wpAnyK_pureD (i := 5) (d := some 71) (v := ?v15_5b3) (fuel := 13) rfl (by kernel_rfl) (by kernel_rfl) (fun _ _ _ h => h) hD rfl (.inl ⟨by kernel_rfl, ?y15_5b3⟩) ?n15_5b3
          case y15_5b3 => intro w' _; go_simp; with_reducible rfl
          clear hD; intro hD
          simp only [Act.put, sqA, sqB, sqC]
          refine wpAnyK_takeD (i := 6) (d := some 72) (v := ?v15_6b3) (fuel := 12) rfl (by kernel_rfl) (by kernel_rfl) (by kernel_rfl) (fun _ _ _ h => h) hD rfl (.inl ⟨by kernel_rfl, ?y15_6b3⟩) ?n15_6b3
          case y15_6b3 => intro w' hS'; have e0 := (hS' ▸ c16); have e1 := (hS' ▸ c7); go_simp; with_reducible rfl
          clear hD; intro hD
          simp only [Act.put, sqA, sqB, sqC]
          refine wpAnyK_pureD (i := 7) (d := some 73) (v := ?v15_7b3) (fuel := 11) rfl (by kernel_rfl) (by kernel_rfl) (fun _ _ _ h => h) hD rfl (.inl ⟨by kernel_rfl, ?y15_7b3⟩) ?n15_7b3
          case y15_7b3 => intro w' _; go_simp; with_reducible rfl
          clear hD; intro hD
          simp only [Act.put, sqA, sqB, sqC]
          refine wpAnyK_pureD (i := 8) (d := some 74) (v := ?v15_8b3) (fuel := 10) rfl (by kernel_rfl) (by kernel_rfl) (fun _ _ _ h => h) hD rfl (.inl ⟨by kernel_rfl, ?y15_8b3⟩) ?n15_8b3
          case y15_8b3 => intro w' _; go_simp; with_reducible rfl
          clear hD; intro hD
          simp only [Act.put, sqA, sqB, sqC]
          refine wpAnyK_pureD (i := 9) (d := some 75) (v := ?v15_9b3) (fuel := 9) rfl (by kernel_rfl) (by kernel_rfl) (fun _ _ _ h => h) hD rfl (.inl ⟨by kernel_rfl, ?y15_9b3⟩) ?n15_9b3
          case y15_9b3 => intro w' _; go_simp; with_reducible rfl
          clear hD; intro hD
          simp only [Act.put, sqA, sqB, sqC]
          refine wpAnyK_pureD (i := 10) (d := some 76) (v := ?v15_10b3) (fuel := 8) rfl (by kernel_rfl) (by kernel_rfl) (fun _ _ _ h => h) hD rfl (.inl ⟨by kernel_rfl, ?y15_10b3⟩) ?n15_10b3
          case y15_10b3 => intro w' _; go_simp; with_reducible rfl
          clear hD; intro hD
          simp only [Act.put, sqA, sqB, sqC]
          refine wpAnyK_pureD (i := 11) (d := some 77) (v := ?v15_11b3) (fuel := 7) rfl (by kernel_rfl) (by kernel_rfl) (fun _ _ _ h => h) hD rfl (.inl ⟨by kernel_rfl, ?y15_11b3⟩) ?n15_11b3
          case y15_11b3 => intro w' _; go_simp; with_reducible rfl
          clear hD; intro hD
          simp only [Act.put, sqA, sqB, sqC]
          refine wpAnyK_pureD (i := 12) (d := some 78) (v := ?v15_12b3) (fuel := 6) rfl (by kernel_rfl) (by kernel_rfl) (fun _ _ _ h => h) hD rfl (.inl ⟨by kernel_rfl, ?y15_12b3⟩) ?n15_12b3
          case y15_12b3 => intro w' _; go_simp; with_reducible rfl
          clear hD; intro hD
          simp only [Act.put, sqA, sqB, sqC]
          refine wpAnyK_takeD (i := 13) (d := some 79) (v := ?v15_13b3) (fuel := 5) rfl (by kernel_rfl) (by kernel_rfl) (by kernel_rfl) (fun _ _ _ h => h) hD rfl (.inl ⟨by kernel_rfl, ?y15_13b3⟩) ?n15_13b3
          case y15_13b3 => intro w' hS'; have e0 := (hS' ▸ c16); have e1 := (hS' ▸ c7); go_simp; with_reducible rfl
          clear hD; intro hD
          simp only [Act.put, sqA, sqB, sqC]
          refine wpAnyK_pureD (i := 14) (d := some 80) (v := ?v15_14b3) (fuel := 4) rfl (by kernel_rfl) (by kernel_rfl) (fun _ _ _ h => h) hD rfl (.inl ⟨by kernel_rfl, ?y15_14b3⟩) ?n15_14b3
          case y15_14b3 => intro w' _; go_simp; with_reducible rfl
          clear hD; intro hD
          simp only [Act.put, sqA, sqB, sqC]
          refine wpAnyK_pureD (i := 15) (d := some 81) (v := ?v15_15b3) (fuel := 3) rfl (by kernel_rfl) (by kernel_rfl) (fun _ _ _ h => h) hD rfl (.inl ⟨by kernel_rfl, ?y15_15b3⟩) ?n15_15b3
          case y15_15b3 => intro w' _; go_simp; with_reducible rfl
          clear hD; intro hD
          simp only [Act.put, sqA, sqB, sqC]
          refine wpAnyK_pureD (i := 16) (d := some 82) (v := ?v15_16b3) (fuel := 2) rfl (by kernel_rfl) (by kernel_rfl) (fun _ _ _ h => h) hD rfl (.inl ⟨by kernel_rfl, ?y15_16b3⟩) ?n15_16b3
          case y15_16b3 => intro w' _; go_simp; with_reducible rfl
          clear hD; intro hD
          simp only [Act.put, sqA, sqB, sqC]
          refine wpAnyK_pureD (i := 17) (d := some 83) (v := ?v15_17b3) (fuel := 1) rfl (by kernel_rfl) (by kernel_rfl) (fun _ _ _ h => h) hD rfl (.inl ⟨by kernel_rfl, ?y15_17b3⟩) ?n15_17b3
          case y15_17b3 => intro w' _; go_simp; with_reducible rfl
          clear hD; intro hD
          simp only [Act.put, sqA, sqB, sqC]
          refine wpAnyK_oneT (i := 18) (fuel := 0) (by kernel_rfl) rfl hD (by kernel_rfl) ?_
          clear hD; intro K18 hK18
          go_wp2
          refine hK18 _ _ ?_; clear hK18; intro hD
          refine wpAnyK_done (by kernel_rfl) ?_ 0
          clear hD
          clear i15 i2 i16 i7 l15 l2 l16 l7 v15 v2 v16 v7 c16 c7 hf hcw
          rw [sched_val2, ← HV.out]
          obtain ⟨V, hV⟩ : ∃ V, wv m k = V := ⟨_, rfl⟩
          rw [hV]
          have HVV := Lib.hid hV
          clear hV HV
          go_wp2
          go_roundw
          case rel =>
            refine ⟨k + 1, by omega, by omega, by go_num, ?_, ?_⟩
            · rw [← hwe]
              refine (HR4.out.drew.set k V).congr fun i hi => ?_
              unfold wz
              by_cases e : i = k
              · rw [if_pos e, if_pos (by omega), e, HVV.out]
              · rw [if_neg e]
                by_cases h : i < k
                · rw [if_pos h, if_pos (by omega)]
                · rw [if_neg h, if_neg (by omega)]
            · rw [← hwe]; exact HBB.out.drew.setCell (Nat.le_refl _) _
          case measure => simp [RowKit.intOf]; omega
        · have HK := Lib.hid (show k = 64 from by omega)
          have hge : ¬ ((k : Int) < 64) := by omega
          have HR3 := Lib.hid (show RowW wr H 64 195 (wv m) from HR.out.congr fun i hi => by unfold wz; rw [if_pos (by have := HK.out; omega)])
          clear hk0 hk hlt HK
          go_wp2
          go_ret
          exact ⟨rfl, HR3.out, HB.out⟩
end Go.Proofs.YtpdejgdkpghjhaaGreatDoor

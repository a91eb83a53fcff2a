/- The key of a label as one plain function (nwR), and the walks of pedersen.New and dominoref14.New. -/
import Derived.Test.YtpdejgdkpghjhaaGreatDoorQKnA
import Derived.Test.YtpdejgdkpghjhaaGreatDoorQHaC
import Derived.Test.YtpdejgdkpghjhaaGreatDoorQPeT
import Derived.Test.YtpdejgdkpghjhaaGreatDoorQPeE
set_option linter.unusedVariables false
set_option linter.unusedSimpArgs false
namespace Go.Proofs.YtpdejgdkpghjhaaGreatDoor
open Go.RowKit Go.Lib

/-- The element that Hash finds, where the order divides. -/
def hkN (m q : Nat) (l : List UInt8) : Option Nat := if (m - 1) % q = 0 then hsF m ((m - 1) / q) l 64 else none
theorem hsN_hk (m q : Nat) (l : List UInt8) : hsN m q l = hsO (hkN m q l) := by
  unfold hsN hkN
  split <;> rfl
/-- A key with an error. -/
def kz (e : Int) : Value := .tuple #[.agg #[.string ⟨#[]⟩, .string ⟨#[]⟩, .string ⟨#[]⟩, .string ⟨#[]⟩], .int .i64 e]
/-- The label of the second element. -/
def nwL (l : List UInt8) (c : Nat) : List UInt8 := l ++ ([46, 72] ++ Lib.decDigits c)
/-- The key, once the first element is found; n counters are left. -/
def nwF (M O : ByteArray) (l : List UInt8) (a : Nat) : Nat → Value
  | 0 => kz 9
  | n + 1 => match hkN (num M) (num O) (nwL l (63 - n)) with
    | none => kz 13
    | some b => if b = a then nwF M O l a n else .tuple #[.agg #[.string M, .string O, .string (nS a), .string (nS b)], .int .i64 0]
/-- The key of a label. -/
def nwR (M O : ByteArray) (l : List UInt8) : Value :=
  if chkK M O = 0 then if num O = 0 then kz 1 else match hkN (num M) (num O) (l ++ [46, 71]) with
    | none => kz 13
    | some a => nwF M O l a 64
  else kz (chkK M O)

theorem str_inj {a b : ByteArray} (h : a.toList = b.toList) : a = b := by
  rw [ByteArray.toList_eq, ByteArray.toList_eq] at h
  exact ByteArray.ext (Array.toList_inj.1 h)
/-- The group's box and the result's place. -/
def NwS (w W : World) (M O : ByteArray) : Prop := Bx2 W w.heap.size (.string M) (.string O) 24 ∧ Bx4 W (w.heap.size + 1) (.string ⟨#[]⟩) (.string ⟨#[]⟩) (.string ⟨#[]⟩) (.string ⟨#[]⟩) 26 ∧ Below w.heap.size w W
theorem NwS.new (w : World) (M O : ByteArray) : NwS w ((w.alloc (.cells #[.string M, .string O] 24)).alloc (.cells #[.string ⟨#[]⟩, .string ⟨#[]⟩, .string ⟨#[]⟩, .string ⟨#[]⟩] 26)) M O := by
  refine ⟨(Bx2.new w _ _ _).next ((Below.refl _ _).alloc (Nat.le_refl _) _), ?_, ((Below.refl _ _).alloc (Nat.le_refl _) _).alloc (by simp) _⟩
  have := Bx4.new (w.alloc (.cells #[.string M, .string O] 24)) (.string ⟨#[]⟩) (.string ⟨#[]⟩) (.string ⟨#[]⟩) (.string ⟨#[]⟩) 26
  rwa [World.size_alloc] at this
theorem NwS.next {w W W' : World} {M O : ByteArray} (h : NwS w W M O) (hb : Below W.heap.size W W') : NwS w W' M O := ⟨h.1.next hb, h.2.1.next hb, h.2.2.trans (hb.mono h.2.2.size)⟩
theorem NwS.drew {w W : World} {M O : ByteArray} (h : NwS w W M O) : NwS w W.drew M O := ⟨h.1, h.2.1, h.2.2.drew⟩
/-- A label with a text behind it. -/
theorem lab_add (l m : List UInt8) (h : l.length + m.length ≤ 1000000) (P : Program) (w : World) : (Op.stringOp .add (bstr l) (bstr m)).run P w = .ok (.string (bstr (l ++ m))) w := by
  rw [run_string_add_sum w _ _ (by rw [bstr_size, bstr_size]; omega)]
  exact congrArg (fun x => Result.ok (Value.string x) w) (bstr_snoc l m)
theorem chkK_sizes {M O : ByteArray} (h : chkK M O = 0) (h0 : num O ≠ 0) : nvalid M = true ∧ nvalid O = true ∧ ¬ (num M = 0 ∨ num O = 0) := by
  unfold chkK at h
  split at h
  · rename_i hv
    simp only [Bool.and_eq_true] at hv
    refine ⟨hv.1, hv.2, fun h1 => ?_⟩
    rcases h1 with h1 | h1
    · unfold chkN at h
      rw [if_neg h0, if_pos (.inl (by omega))] at h
      cases h
    · exact h0 h1
  · cases h

set_option maxRecDepth 100000 in
set_option maxHeartbeats 2000000 in
theorem pk_New (M O s : ByteArray) (hM : M.size ≤ 8) (hO : O.size ≤ 8) (hs : s.size ≤ 1000) (w : World) : Calls Tryz.prog 25 #[gV M O, .string s] w (Ret (nwR M O s.data.toList) w) := by
  have HCK := Lib.hid (pw_Check M O hM hO)
  by_cases hc : chkK M O = 0
  · by_cases h0 : num O = 0
    · have HR := Lib.hid (show nwR M O s.data.toList = kz 1 from by unfold nwR; rw [if_pos hc, if_pos h0])
      rw [HR.out]
      rw [hc] at HCK
      have hv := (chkK_parts hc).2.1
      have he : O.toList.isEmpty = true := by rw [nS_num hv, h0]; exact sempty_true rfl
      unfold gV at *
      clear hM hO hs hc h0 hv
      go_enter Tryz.func25, Tryz.ntmps25
      have hk := NwS.new w M O
      obtain ⟨W0, hW0⟩ : ∃ W, (w.alloc (.cells #[.string M, .string O] 24)).alloc (.cells #[.string ⟨#[]⟩, .string ⟨#[]⟩, .string ⟨#[]⟩, .string ⟨#[]⟩] 26) = W := ⟨_, rfl⟩
      rw [hW0] at hk
      have HK0 := Lib.hid hk
      have c0 := hk.1.c0
      have c1 := hk.1.c1
      obtain ⟨r0, r1, r2, r3⟩ := hk.2.1.cells
      have f0 := hk.2.1.free 0
      have f1 := hk.2.1.free 1
      have f2 := hk.2.1.free 2
      have f3 := hk.2.1.free 3
      clear hk
      go_wp2_with fail
      try rw [hW0]
      clear hW0
      refine (HCK.out _).mono ?_
      rintro ev w1 ⟨rfl, hb1⟩
      have HK1h := HK0.out.next hb1
      have HK1 := Lib.hid HK1h
      clear hb1 c0 c1 r0 r1 r2 r3 f0 f1 f2 f3
      have c0 := HK1h.1.c0
      have c1 := HK1h.1.c1
      obtain ⟨r0, r1, r2, r3⟩ := HK1h.2.1.cells
      have f0 := HK1h.2.1.free 0
      have f1 := HK1h.2.1.free 1
      have f2 := HK1h.2.1.free 2
      have f3 := HK1h.2.1.free 3
      clear HK1h
      go_wp2
      obtain ⟨q0, q1, q2, q3⟩ := (HK1.out.2.1.set4 (a := .string ⟨#[]⟩) (b := .string ⟨#[]⟩) (c := .string ⟨#[]⟩) (d := .string ⟨#[]⟩)).cells
      exact bodyPost_ret (v := .tuple #[.agg #[.string ⟨#[]⟩, .string ⟨#[]⟩, .string ⟨#[]⟩, .string ⟨#[]⟩], .int .i64 1]) (by simp [results, Tryz.results25, go_sem, q0, q1, q2, q3]) rfl ⟨(by rfl), below_set4 HK1.out.2.2 (by omega) _ _ _ _⟩
    · have hv := chkK_sizes hc h0
      obtain ⟨l, hl⟩ : ∃ l, s.data.toList = l := ⟨_, rfl⟩
      have hll : l.length ≤ 1000 := by rw [← hl]; exact (show s.data.toList.length = s.size from Array.length_toList) ▸ hs
      have hsl : s = bstr l := by rw [← hl]; exact (bstr_of s).symm
      rw [hl]
      have he : O.toList.isEmpty = false := by rw [nS_num hv.2.1]; exact empty_nS (by omega)
      have hhash : ∀ x : List UInt8, hsR M O x = hsO (hkN (num M) (num O) x) := fun x => by unfold hsR; rw [if_pos ⟨hv.1, hv.2.1⟩, if_neg hv.2.2, hsN_hk]
      have HHA := Lib.hid (fun (x : List UInt8) (hx : (bstr x).size ≤ 100000) => by
        have := pg_Hash M O (bstr x) hM (by omega) hx
        rw [bstr_list, hhash] at this
        exact this)
      have h1 := HHA.out (l ++ [46, 71]) (by rw [bstr_size]; simp; omega)
      have hadd1 : ∀ w, (Op.stringOp .add s ⟨#[46, 71]⟩).run Tryz.prog w = .ok (.string (bstr (l ++ [46, 71]))) w := fun w => by rw [hsl]; exact lab_add l [46, 71] (by simp; omega) _ w
      obtain ⟨t1, ht1⟩ : ∃ t, bstr (l ++ [46, 71]) = t := ⟨_, rfl⟩
      rw [ht1] at h1 hadd1
      clear ht1
      rw [hc] at HCK
      cases ho : hkN (num M) (num O) (l ++ [46, 71]) with
      | none =>
        have HR := Lib.hid (show nwR M O l = kz 13 from by unfold nwR; rw [if_pos hc, if_neg h0, ho])
        rw [HR.out]
        rw [ho] at h1
        simp only [hsO] at h1
        have H1 := Lib.hid h1
        unfold gV at *
        clear hM hO hs hc h0 hv hl hll hsl hhash ho h1
        go_enter Tryz.func25, Tryz.ntmps25
        have hk := NwS.new w M O
        obtain ⟨W0, hW0⟩ : ∃ W, (w.alloc (.cells #[.string M, .string O] 24)).alloc (.cells #[.string ⟨#[]⟩, .string ⟨#[]⟩, .string ⟨#[]⟩, .string ⟨#[]⟩] 26) = W := ⟨_, rfl⟩
        rw [hW0] at hk
        have HK0 := Lib.hid hk
        have c0 := hk.1.c0
        have c1 := hk.1.c1
        obtain ⟨r0, r1, r2, r3⟩ := hk.2.1.cells
        have f0 := hk.2.1.free 0
        have f1 := hk.2.1.free 1
        have f2 := hk.2.1.free 2
        have f3 := hk.2.1.free 3
        clear hk
        go_wp2_with fail
        try rw [hW0]
        clear hW0
        refine (HCK.out _).mono ?_
        rintro ev w1 ⟨rfl, hb1⟩
        have HK1h := HK0.out.next hb1
        have HK1 := Lib.hid HK1h
        clear hb1 c0 c1 r0 r1 r2 r3 f0 f1 f2 f3
        have c0 := HK1h.1.c0
        have c1 := HK1h.1.c1
        obtain ⟨r0, r1, r2, r3⟩ := HK1h.2.1.cells
        have f0 := HK1h.2.1.free 0
        have f1 := HK1h.2.1.free 1
        have f2 := HK1h.2.1.free 2
        have f3 := HK1h.2.1.free 3
        clear HK1h
        go_wp2_with fail
        refine (H1.out _).mono ?_
        rintro ev w2 ⟨rfl, hb2⟩
        have HK2h := HK1.out.next hb2
        have HK2 := Lib.hid HK2h
        clear hb2 c0 c1 r0 r1 r2 r3 f0 f1 f2 f3
        have c0 := HK2h.1.c0
        have c1 := HK2h.1.c1
        obtain ⟨r0, r1, r2, r3⟩ := HK2h.2.1.cells
        have f0 := HK2h.2.1.free 0
        have f1 := HK2h.2.1.free 1
        have f2 := HK2h.2.1.free 2
        have f3 := HK2h.2.1.free 3
        clear HK2h
        go_wp2
        obtain ⟨q0, q1, q2, q3⟩ := (HK2.out.2.1.set4 (a := .string ⟨#[]⟩) (b := .string ⟨#[]⟩) (c := .string ⟨#[]⟩) (d := .string ⟨#[]⟩)).cells
        exact bodyPost_ret (v := .tuple #[.agg #[.string ⟨#[]⟩, .string ⟨#[]⟩, .string ⟨#[]⟩, .string ⟨#[]⟩], .int .i64 13]) (by simp [results, Tryz.results25, go_sem, q0, q1, q2, q3]) rfl ⟨(by rfl), below_set4 HK2.out.2.2 (by omega) _ _ _ _⟩
      | some a =>
        have HR := Lib.hid (show nwR M O l = nwF M O l a 64 from by unfold nwR; rw [if_pos hc, if_neg h0, ho])
        rw [HR.out]
        rw [ho] at h1
        simp only [hsO] at h1
        have H1 := Lib.hid h1
        have HL := Lib.hid hll
        have HSL := Lib.hid hsl
        unfold gV at *
        clear hM hO hs hc h0 hv hl hll hsl hhash ho h1
        go_enter Tryz.func25, Tryz.ntmps25
        have hk := NwS.new w M O
        obtain ⟨W0, hW0⟩ : ∃ W, (w.alloc (.cells #[.string M, .string O] 24)).alloc (.cells #[.string ⟨#[]⟩, .string ⟨#[]⟩, .string ⟨#[]⟩, .string ⟨#[]⟩] 26) = W := ⟨_, rfl⟩
        rw [hW0] at hk
        have HK0 := Lib.hid hk
        have c0 := hk.1.c0
        have c1 := hk.1.c1
        obtain ⟨r0, r1, r2, r3⟩ := hk.2.1.cells
        have f0 := hk.2.1.free 0
        have f1 := hk.2.1.free 1
        have f2 := hk.2.1.free 2
        have f3 := hk.2.1.free 3
        clear hk
        go_wp2_with fail
        try rw [hW0]
        clear hW0
        refine (HCK.out _).mono ?_
        rintro ev w1 ⟨rfl, hb1⟩
        have HK1h := HK0.out.next hb1
        have HK1 := Lib.hid HK1h
        clear hb1 c0 c1 r0 r1 r2 r3 f0 f1 f2 f3
        have c0 := HK1h.1.c0
        have c1 := HK1h.1.c1
        obtain ⟨r0, r1, r2, r3⟩ := HK1h.2.1.cells
        have f0 := HK1h.2.1.free 0
        have f1 := HK1h.2.1.free 1
        have f2 := HK1h.2.1.free 2
        have f3 := HK1h.2.1.free 3
        clear HK1h
        go_wp2_with fail
        refine (H1.out _).mono ?_
        rintro ev w2 ⟨rfl, hb2⟩
        have HK2h := HK1.out.next hb2
        have HK2 := Lib.hid HK2h
        clear hb2 c0 c1 r0 r1 r2 r3 f0 f1 f2 f3
        have c0 := HK2h.1.c0
        have c1 := HK2h.1.c1
        obtain ⟨r0, r1, r2, r3⟩ := HK2h.2.1.cells
        have f0 := HK2h.2.1.free 0
        have f1 := HK2h.2.1.free 1
        have f2 := HK2h.2.1.free 2
        have f3 := HK2h.2.1.free 3
        clear HK2h
        clear c0 c1 r0 r1 r2 r3 f0 f1 f2 f3 he hadd1
        obtain ⟨sa, hsa⟩ : ∃ x, nS a = x := ⟨_, rfl⟩
        have HSA := Lib.hid hsa
        rw [hsa]
        clear hsa
        go_wp2
        go_loopw [33] (fun i wr => ∃ n : Nat, n ≤ 64 ∧ i = .int .i64 ((64 - n : Nat) : Int) ∧ nwF M O l a n = nwF M O l a 64 ∧ NwS w wr M O) (fun i _ => 64 - (RowKit.intOf i).toNat)
        case atStart => exact ⟨64, Nat.le_refl _, rfl, rfl, HK2.out⟩
        case round =>
          obtain ⟨n, hn, rfl, hf, hk⟩ := hrel
          have HF2 := Lib.hid hf
          have HK := Lib.hid hk
          have c0 := hk.1.c0
          have c1 := hk.1.c1
          obtain ⟨r0, r1, r2, r3⟩ := hk.2.1.cells
          have f0 := hk.2.1.free 0
          have f1 := hk.2.1.free 1
          have f2 := hk.2.1.free 2
          have f3 := hk.2.1.free 3
          clear hf hk
          by_cases h0 : n = 0
          · have HN0 := Lib.hid (show nwF M O l a 64 = kz 9 from by rw [← HF2.out, h0]; rfl)
            have hge : ¬ (((64 - n : Nat) : Int) < 64) := by omega
            clear h0
            go_wp2
            obtain ⟨q0, q1, q2, q3⟩ := (HK.out.2.1.set4 (a := .string ⟨#[]⟩) (b := .string ⟨#[]⟩) (c := .string ⟨#[]⟩) (d := .string ⟨#[]⟩)).cells
            exact bodyPost_ret (v := .tuple #[.agg #[.string ⟨#[]⟩, .string ⟨#[]⟩, .string ⟨#[]⟩, .string ⟨#[]⟩], .int .i64 9]) (by simp [results, Tryz.results25, go_sem, q0, q1, q2, q3]) rfl ⟨(by rw [HN0.out]; rfl), below_set4 HK.out.2.2 (by omega) _ _ _ _⟩
          · obtain ⟨p, hp⟩ : ∃ p, n = p + 1 := ⟨n - 1, by omega⟩
            have HP := Lib.hid hp
            obtain ⟨c, hc⟩ : ∃ c, 64 - n = c := ⟨_, rfl⟩
            have hci : (c : Int) < 64 := by omega
            have HCP := Lib.hid (show c = 63 - p ∧ p + 1 ≤ 64 ∧ c < 100 from by omega)
            rw [hc]
            clear hp hc h0 hn
            have hlen : (Lib.decDigits c).length ≤ 2 := by have := HCP.out; exact decDigits_len 1 c (by omega)
            have HN := Lib.hid (show nwF M O l a 64 = match hkN (num M) (num O) (nwL l c) with
              | none => kz 13
              | some b => if b = a then nwF M O l a p else .tuple #[.agg #[.string M, .string O, .string (nS a), .string (nS b)], .int .i64 0] from by
              rw [← HF2.out, HP.out, nwF, HCP.out.1])
            have h2 := HHA.out (nwL l c) (by rw [bstr_size]; unfold nwL; have := HL.out; simp; omega)
            have hadd1 : ∀ w, (Op.stringOp .add s ⟨#[46, 72]⟩).run Tryz.prog w = .ok (.string (bstr (l ++ [46, 72]))) w := fun w => by rw [HSL.out]; exact lab_add l [46, 72] (by have := HL.out; simp; omega) _ w
            have hadd2 : ∀ w, (Op.stringOp .add (bstr (l ++ [46, 72])) ⟨(Lib.decDigits c).toArray⟩).run Tryz.prog w = .ok (.string (bstr (nwL l c))) w := fun w => by
              rw [show nwL l c = (l ++ [46, 72]) ++ Lib.decDigits c from by unfold nwL; rw [List.append_assoc]]
              exact lab_add (l ++ [46, 72]) (Lib.decDigits c) (by have := HL.out; simp; omega) _ w
            have HIT := Lib.hid (Tryz.strconv_Itoa_small c HCP.out.2.2)
            obtain ⟨t0, ht0⟩ : ∃ t, (ByteArray.mk (Lib.decDigits c).toArray) = t := ⟨_, rfl⟩
            obtain ⟨t3, ht3⟩ : ∃ t, bstr (l ++ [46, 72]) = t := ⟨_, rfl⟩
            obtain ⟨t2, ht2⟩ : ∃ t, bstr (nwL l c) = t := ⟨_, rfl⟩
            rw [ht3] at hadd1
            rw [ht3, ht0, ht2] at hadd2
            rw [ht0] at HIT
            rw [ht2] at h2
            clear ht0 ht2 ht3 hlen
            obtain ⟨o, ho⟩ : ∃ o, hkN (num M) (num O) (nwL l c) = o := ⟨_, rfl⟩
            rw [ho] at HN h2
            clear ho
            obtain ⟨rs, re, hre⟩ : ∃ rs re, hsO o = .tuple #[.string rs, .int .i64 re] := by cases o <;> exact ⟨_, _, rfl⟩
            rw [hre] at h2
            have HRE := Lib.hid hre
            have H2 := Lib.hid h2
            clear h2 hre
            obtain ⟨wd, hwd⟩ : ∃ wd, wr.drew = wd := ⟨_, rfl⟩
            have HKD := Lib.hid (show NwS w wd M O from by rw [← hwd]; exact HK.out.drew)
            have d0 := HKD.out.1.c0
            have d1 := HKD.out.1.c1
            clear c0 c1 r0 r1 r2 r3 f0 f1 f2 f3
            go_wp2
            refine wp_region_K 12 (Below (wd).heap.size (wd)) (by kernel_rfl) ?_
            intro hD
            rw [hwd]
            refine wpAnyK_takeSD (i := 0) (d := some 37) (v := ?v12_0b1) (fuel := 11) rfl (by kernel_rfl) (by kernel_rfl) (by kernel_rfl) (fun _ _ _ h => h) hD (Below.refl _ _) (.inl ⟨by kernel_rfl, ?y12_0b1⟩) ?n12_0b1
            case y12_0b1 => intro w' hS'; have e0 := cell_kept hS' (Nat.le_refl _) d0; have e1 := cell_kept hS' (Nat.le_refl _) d1; go_simp; with_reducible rfl
            clear hD; intro hD
            simp only [Act.put, List.setIfInBounds_toArray, List.set_cons_zero, List.set_cons_succ]
            refine wpAnyK_pureD (i := 1) (d := some 38) (v := ?v12_1b1) (fuel := 10) rfl (by kernel_rfl) (by kernel_rfl) (fun _ _ _ h => h) hD (Below.refl _ _) (.inl ⟨by kernel_rfl, ?y12_1b1⟩) ?n12_1b1
            case y12_1b1 => intro w' _; go_simp; with_reducible rfl
            clear hD; intro hD
            simp only [Act.put, List.setIfInBounds_toArray, List.set_cons_zero, List.set_cons_succ]
            refine wpAnyK_pureD (i := 2) (d := some 39) (v := ?v12_2b1) (fuel := 9) rfl (by kernel_rfl) (by kernel_rfl) (fun _ _ _ h => h) hD (Below.refl _ _) (.inl ⟨by kernel_rfl, ?y12_2b1⟩) ?n12_2b1
            case y12_2b1 => intro w' _; go_simp; with_reducible rfl
            clear hD; intro hD
            simp only [Act.put, List.setIfInBounds_toArray, List.set_cons_zero, List.set_cons_succ]
            refine wpAnyK_pureD (i := 3) (d := some 40) (v := ?v12_3b1) (fuel := 8) rfl (by kernel_rfl) (by kernel_rfl) (fun _ _ _ h => h) hD (Below.refl _ _) (.inl ⟨by kernel_rfl, ?y12_3b1⟩) ?n12_3b1
            case y12_3b1 => intro w' _; go_simp; with_reducible rfl
            clear hD; intro hD
            simp only [Act.put, List.setIfInBounds_toArray, List.set_cons_zero, List.set_cons_succ]
            refine wpAnyK_one (i := 4) (fuel := 7) (by kernel_rfl) rfl hD ?_
            clear hD; intro K4 hK4
            go_wp2_with fail
            refine (HIT.out _).mono ?_
            rintro ev w3 ⟨rfl, rfl⟩
            go_wp2
            refine hK4 _ _ (by exact Below.refl _ _) ?_; clear hK4; intro hS_12_4 hD
            refine wpAnyK_pureD (i := 5) (d := some 42) (v := ?v12_5b1) (fuel := 6) rfl (by kernel_rfl) (by kernel_rfl) (fun _ _ _ h => h) hD hS_12_4 (.inl ⟨by kernel_rfl, ?y12_5b1⟩) ?n12_5b1
            case y12_5b1 => intro w' _; go_simp; with_reducible rfl
            clear hD; intro hD
            simp only [Act.put, List.setIfInBounds_toArray, List.set_cons_zero, List.set_cons_succ]
            refine wpAnyK_one (i := 6) (fuel := 5) (by kernel_rfl) rfl hD ?_
            clear hD; intro K6 hK6
            go_wp2_with fail
            refine (H2.out _).mono ?_
            rintro ev w4 ⟨rfl, hb4⟩
            have HB6 := Lib.hid hb4
            clear hb4
            go_wp2
            refine hK6 _ _ (by exact Below.trans hS_12_4 (Below.mono HB6.out (Below.size hS_12_4))) ?_; clear hK6; intro hS_12_6 hD
            refine wpAnyK_pureD (i := 7) (d := some 36) (v := ?v12_7b1) (fuel := 4) rfl (by kernel_rfl) (by kernel_rfl) (fun _ _ _ h => h) hD hS_12_6 (.inl ⟨by kernel_rfl, ?y12_7b1⟩) ?n12_7b1
            case y12_7b1 => intro w' _; go_simp; with_reducible rfl
            clear hD; intro hD
            simp only [Act.put, List.setIfInBounds_toArray, List.set_cons_zero, List.set_cons_succ]
            refine wpAnyK_pureD (i := 8) (d := some 44) (v := ?v12_8b1) (fuel := 3) rfl (by kernel_rfl) (by kernel_rfl) (fun _ _ _ h => h) hD hS_12_6 (.inl ⟨by kernel_rfl, ?y12_8b1⟩) ?n12_8b1
            case y12_8b1 => intro w' _; go_simp; with_reducible rfl
            clear hD; intro hD
            simp only [Act.put, List.setIfInBounds_toArray, List.set_cons_zero, List.set_cons_succ]
            refine wpAnyK_pureD (i := 9) (d := some 45) (v := ?v12_9b1) (fuel := 2) rfl (by kernel_rfl) (by kernel_rfl) (fun _ _ _ h => h) hD hS_12_6 (.inl ⟨by kernel_rfl, ?y12_9b1⟩) ?n12_9b1
            case y12_9b1 => intro w' _; go_simp; with_reducible rfl
            clear hD; intro hD
            simp only [Act.put, List.setIfInBounds_toArray, List.set_cons_zero, List.set_cons_succ]
            refine wpAnyK_one (i := 10) (fuel := 1) (by kernel_rfl) rfl hD ?_
            clear hD; intro K10 hK10
            go_wp2
            refine hK10 _ _ (by exact hS_12_6) ?_; clear hK10; intro hS_12_10 hD
            refine wpAnyK_one (i := 11) (fuel := 0) (by kernel_rfl) rfl hD ?_
            clear hD; intro K11 hK11
            go_wp2
            refine hK11 _ _ (by exact hS_12_10) ?_; clear hK11; intro hS_12_11 hD
            have HLL := Lib.hid hS_12_11
            refine wpAnyK_done (by kernel_rfl) ?_ 0
            clear hD
            have hk := HKD.out.next HLL.out
            have HKL := Lib.hid hk
            have c0 := hk.1.c0
            have c1 := hk.1.c1
            obtain ⟨r0, r1, r2, r3⟩ := hk.2.1.cells
            have f0 := hk.2.1.free 0
            have f1 := hk.2.1.free 1
            have f2 := hk.2.1.free 2
            have f3 := hk.2.1.free 3
            clear hk d0 d1 hwd
            cases o with
            | none =>
              obtain ⟨rfl, rfl⟩ : rs = ⟨#[]⟩ ∧ re = 13 := by
                have h := HRE.out
                simp only [hsO] at h
                injection h with h
                have h := congrArg Array.toList h
                simp at h
                exact ⟨h.1.symm, h.2.symm⟩
              go_wp2
              obtain ⟨q0, q1, q2, q3⟩ := (HKL.out.2.1.set4 (a := .string ⟨#[]⟩) (b := .string ⟨#[]⟩) (c := .string ⟨#[]⟩) (d := .string ⟨#[]⟩)).cells
              exact bodyPost_ret (v := .tuple #[.agg #[.string ⟨#[]⟩, .string ⟨#[]⟩, .string ⟨#[]⟩, .string ⟨#[]⟩], .int .i64 13]) (by simp [results, Tryz.results25, go_sem, q0, q1, q2, q3]) rfl ⟨(by rw [HN.out]; rfl), below_set4 HKL.out.2.2 (by omega) _ _ _ _⟩
            | some b =>
              obtain ⟨rfl, rfl⟩ : rs = nS b ∧ re = 0 := by
                have h := HRE.out
                simp only [hsO] at h
                injection h with h
                have h := congrArg Array.toList h
                simp at h
                exact ⟨h.1.symm, h.2.symm⟩
              by_cases hab : b = a
              · have HN2 := Lib.hid (show nwF M O l a p = nwF M O l a 64 from by rw [HN.out]; simp only [hab, if_true])
                rw [show nS b = sa from by rw [hab]; exact HSA.out]
                clear hab
                go_wp2
                refine ⟨⟨p, by have := HCP.out; omega, ?_, HN2.out, HKL.out⟩, ?_⟩
                · have := HCP.out; congr 1; omega
                · have := HCP.out; simp [RowKit.intOf]; omega
              · have HN2 := Lib.hid (show nwF M O l a 64 = .tuple #[.agg #[.string M, .string O, .string (nS a), .string (nS b)], .int .i64 0] from by rw [HN.out]; simp only [if_neg hab])
                have HNE := Lib.hid (show ¬ nS b = sa from fun h => hab (nS_inj (h.trans HSA.out.symm)))
                obtain ⟨sb, hsb⟩ : ∃ x, nS b = x := ⟨_, rfl⟩
                rw [hsb] at HNE ⊢
                have HSB := Lib.hid hsb
                clear hsb hab
                have hne : (sb.toList == sa.toList) = false := beq_eq_false_iff_ne.2 fun h => HNE.out (str_inj h)
                go_wp2
                obtain ⟨q0, q1, q2, q3⟩ := (HKL.out.2.1.set4 (a := .string M) (b := .string O) (c := .string sa) (d := .string sb)).cells
                exact bodyPost_ret (v := .tuple #[.agg #[.string M, .string O, .string sa, .string sb], .int .i64 0]) (by simp [results, Tryz.results25, go_sem, q0, q1, q2, q3]) rfl ⟨(by rw [HN2.out, HSA.out, HSB.out]), below_set4 HKL.out.2.2 (by omega) _ _ _ _⟩
  · have HR := Lib.hid (show nwR M O s.data.toList = kz (chkK M O) from by unfold nwR; rw [if_neg hc])
    rw [HR.out]
    obtain ⟨e, he⟩ : ∃ e, chkK M O = e := ⟨_, rfl⟩
    rw [he] at HCK hc ⊢
    unfold gV at *
    clear hM hO hs he
    go_enter Tryz.func25, Tryz.ntmps25
    have hk := NwS.new w M O
    obtain ⟨W0, hW0⟩ : ∃ W, (w.alloc (.cells #[.string M, .string O] 24)).alloc (.cells #[.string ⟨#[]⟩, .string ⟨#[]⟩, .string ⟨#[]⟩, .string ⟨#[]⟩] 26) = W := ⟨_, rfl⟩
    rw [hW0] at hk
    have HK0 := Lib.hid hk
    have c0 := hk.1.c0
    have c1 := hk.1.c1
    obtain ⟨r0, r1, r2, r3⟩ := hk.2.1.cells
    have f0 := hk.2.1.free 0
    have f1 := hk.2.1.free 1
    have f2 := hk.2.1.free 2
    have f3 := hk.2.1.free 3
    clear hk
    go_wp2_with fail
    try rw [hW0]
    clear hW0
    refine (HCK.out _).mono ?_
    rintro ev w1 ⟨rfl, hb1⟩
    have HK1h := HK0.out.next hb1
    have HK1 := Lib.hid HK1h
    clear hb1 c0 c1 r0 r1 r2 r3 f0 f1 f2 f3
    have c0 := HK1h.1.c0
    have c1 := HK1h.1.c1
    obtain ⟨r0, r1, r2, r3⟩ := HK1h.2.1.cells
    have f0 := HK1h.2.1.free 0
    have f1 := HK1h.2.1.free 1
    have f2 := HK1h.2.1.free 2
    have f3 := HK1h.2.1.free 3
    clear HK1h
    go_wp2
    obtain ⟨q0, q1, q2, q3⟩ := (HK1.out.2.1.set4 (a := .string ⟨#[]⟩) (b := .string ⟨#[]⟩) (c := .string ⟨#[]⟩) (d := .string ⟨#[]⟩)).cells
    exact bodyPost_ret (v := .tuple #[.agg #[.string ⟨#[]⟩, .string ⟨#[]⟩, .string ⟨#[]⟩, .string ⟨#[]⟩], .int .i64 e]) (by simp [results, Tryz.results25, go_sem, q0, q1, q2, q3]) rfl ⟨(by rfl), below_set4 HK1.out.2.2 (by omega) _ _ _ _⟩
end Go.Proofs.YtpdejgdkpghjhaaGreatDoor
/- Walk: dominoref14.New (printed by mkkn.py out of KnB). -/
set_option linter.unusedVariables false
set_option linter.unusedSimpArgs false
namespace Go.Proofs.YtpdejgdkpghjhaaGreatDoor
open Go.RowKit Go.Lib

set_option maxRecDepth 100000 in
set_option maxHeartbeats 2000000 in
theorem r14_New (M O s : ByteArray) (hM : M.size ≤ 8) (hO : O.size ≤ 8) (hs : s.size ≤ 1000) (w : World) : Calls Tryz.prog 26 #[gV M O, .string s] w (Ret (nwR M O s.data.toList) w) := by
  have HCK := Lib.hid (r13_Check M O hM hO)
  by_cases hc : chkK M O = 0
  · by_cases h0 : num O = 0
    · have HR := Lib.hid (show nwR M O s.data.toList = kz 1 from by unfold nwR; rw [if_pos hc, if_pos h0])
      rw [HR.out]
      rw [hc] at HCK
      have hv := (chkK_parts hc).2.1
      have he : O.toList.isEmpty = true := by rw [nS_num hv, h0]; exact sempty_true rfl
      unfold gV at *
      clear hM hO hs hc h0 hv
      go_enter Tryz.func26, Tryz.ntmps26
      have hk := NwS.new w M O
      obtain ⟨W0, hW0⟩ : ∃ W, (w.alloc (.cells #[.string M, .string O] 24)).alloc (.cells #[.string ⟨#[]⟩, .string ⟨#[]⟩, .string ⟨#[]⟩, .string ⟨#[]⟩] 26) = W := ⟨_, rfl⟩
      rw [hW0] at hk
      have HK0 := Lib.hid hk
      have c0 := hk.1.c0
      have c1 := hk.1.c1
      obtain ⟨r0, r1, r2, r3⟩ := hk.2.1.cells
      have f0 := hk.2.1.free 0
      have f1 := hk.2.1.free 1
      have f2 := hk.2.1.free 2
      have f3 := hk.2.1.free 3
      clear hk
      go_wp2_with fail
      try rw [hW0]
      clear hW0
      refine (HCK.out _).mono ?_
      rintro ev w1 ⟨rfl, hb1⟩
      have HK1h := HK0.out.next hb1
      have HK1 := Lib.hid HK1h
      clear hb1 c0 c1 r0 r1 r2 r3 f0 f1 f2 f3
      have c0 := HK1h.1.c0
      have c1 := HK1h.1.c1
      obtain ⟨r0, r1, r2, r3⟩ := HK1h.2.1.cells
      have f0 := HK1h.2.1.free 0
      have f1 := HK1h.2.1.free 1
      have f2 := HK1h.2.1.free 2
      have f3 := HK1h.2.1.free 3
      clear HK1h
      go_wp2
      obtain ⟨q0, q1, q2, q3⟩ := (HK1.out.2.1.set4 (a := .string ⟨#[]⟩) (b := .string ⟨#[]⟩) (c := .string ⟨#[]⟩) (d := .string ⟨#[]⟩)).cells
      exact bodyPost_ret (v := .tuple #[.agg #[.string ⟨#[]⟩, .string ⟨#[]⟩, .string ⟨#[]⟩, .string ⟨#[]⟩], .int .i64 1]) (by simp [results, Tryz.results26, go_sem, q0, q1, q2, q3]) rfl ⟨(by rfl), below_set4 HK1.out.2.2 (by omega) _ _ _ _⟩
    · have hv := chkK_sizes hc h0
      obtain ⟨l, hl⟩ : ∃ l, s.data.toList = l := ⟨_, rfl⟩
      have hll : l.length ≤ 1000 := by rw [← hl]; exact (show s.data.toList.length = s.size from Array.length_toList) ▸ hs
      have hsl : s = bstr l := by rw [← hl]; exact (bstr_of s).symm
      rw [hl]
      have he : O.toList.isEmpty = false := by rw [nS_num hv.2.1]; exact empty_nS (by omega)
      have hhash : ∀ x : List UInt8, hsR M O x = hsO (hkN (num M) (num O) x) := fun x => by unfold hsR; rw [if_pos ⟨hv.1, hv.2.1⟩, if_neg hv.2.2, hsN_hk]
      have HHA := Lib.hid (fun (x : List UInt8) (hx : (bstr x).size ≤ 100000) => by
        have := r09_Hash M O (bstr x) hM (by omega) hx
        rw [bstr_list, hhash] at this
        exact this)
      have h1 := HHA.out (l ++ [46, 71]) (by rw [bstr_size]; simp; omega)
      have hadd1 : ∀ w, (Op.stringOp .add s ⟨#[46, 71]⟩).run Tryz.prog w = .ok (.string (bstr (l ++ [46, 71]))) w := fun w => by rw [hsl]; exact lab_add l [46, 71] (by simp; omega) _ w
      obtain ⟨t1, ht1⟩ : ∃ t, bstr (l ++ [46, 71]) = t := ⟨_, rfl⟩
      rw [ht1] at h1 hadd1
      clear ht1
      rw [hc] at HCK
      cases ho : hkN (num M) (num O) (l ++ [46, 71]) with
      | none =>
        have HR := Lib.hid (show nwR M O l = kz 13 from by unfold nwR; rw [if_pos hc, if_neg h0, ho])
        rw [HR.out]
        rw [ho] at h1
        simp only [hsO] at h1
        have H1 := Lib.hid h1
        unfold gV at *
        clear hM hO hs hc h0 hv hl hll hsl hhash ho h1
        go_enter Tryz.func26, Tryz.ntmps26
        have hk := NwS.new w M O
        obtain ⟨W0, hW0⟩ : ∃ W, (w.alloc (.cells #[.string M, .string O] 24)).alloc (.cells #[.string ⟨#[]⟩, .string ⟨#[]⟩, .string ⟨#[]⟩, .string ⟨#[]⟩] 26) = W := ⟨_, rfl⟩
        rw [hW0] at hk
        have HK0 := Lib.hid hk
        have c0 := hk.1.c0
        have c1 := hk.1.c1
        obtain ⟨r0, r1, r2, r3⟩ := hk.2.1.cells
        have f0 := hk.2.1.free 0
        have f1 := hk.2.1.free 1
        have f2 := hk.2.1.free 2
        have f3 := hk.2.1.free 3
        clear hk
        go_wp2_with fail
        try rw [hW0]
        clear hW0
        refine (HCK.out _).mono ?_
        rintro ev w1 ⟨rfl, hb1⟩
        have HK1h := HK0.out.next hb1
        have HK1 := Lib.hid HK1h
        clear hb1 c0 c1 r0 r1 r2 r3 f0 f1 f2 f3
        have c0 := HK1h.1.c0
        have c1 := HK1h.1.c1
        obtain ⟨r0, r1, r2, r3⟩ := HK1h.2.1.cells
        have f0 := HK1h.2.1.free 0
        have f1 := HK1h.2.1.free 1
        have f2 := HK1h.2.1.free 2
        have f3 := HK1h.2.1.free 3
        clear HK1h
        go_wp2_with fail
        refine (H1.out _).mono ?_
        rintro ev w2 ⟨rfl, hb2⟩
        have HK2h := HK1.out.next hb2
        have HK2 := Lib.hid HK2h
        clear hb2 c0 c1 r0 r1 r2 r3 f0 f1 f2 f3
        have c0 := HK2h.1.c0
        have c1 := HK2h.1.c1
        obtain ⟨r0, r1, r2, r3⟩ := HK2h.2.1.cells
        have f0 := HK2h.2.1.free 0
        have f1 := HK2h.2.1.free 1
        have f2 := HK2h.2.1.free 2
        have f3 := HK2h.2.1.free 3
        clear HK2h
        go_wp2
        obtain ⟨q0, q1, q2, q3⟩ := (HK2.out.2.1.set4 (a := .string ⟨#[]⟩) (b := .string ⟨#[]⟩) (c := .string ⟨#[]⟩) (d := .string ⟨#[]⟩)).cells
        exact bodyPost_ret (v := .tuple #[.agg #[.string ⟨#[]⟩, .string ⟨#[]⟩, .string ⟨#[]⟩, .string ⟨#[]⟩], .int .i64 13]) (by simp [results, Tryz.results26, go_sem, q0, q1, q2, q3]) rfl ⟨(by rfl), below_set4 HK2.out.2.2 (by omega) _ _ _ _⟩
      | some a =>
        have HR := Lib.hid (show nwR M O l = nwF M O l a 64 from by unfold nwR; rw [if_pos hc, if_neg h0, ho])
        rw [HR.out]
        rw [ho] at h1
        simp only [hsO] at h1
        have H1 := Lib.hid h1
        have HL := Lib.hid hll
        have HSL := Lib.hid hsl
        unfold gV at *
        clear hM hO hs hc h0 hv hl hll hsl hhash ho h1
        go_enter Tryz.func26, Tryz.ntmps26
        have hk := NwS.new w M O
        obtain ⟨W0, hW0⟩ : ∃ W, (w.alloc (.cells #[.string M, .string O] 24)).alloc (.cells #[.string ⟨#[]⟩, .string ⟨#[]⟩, .string ⟨#[]⟩, .string ⟨#[]⟩] 26) = W := ⟨_, rfl⟩
        rw [hW0] at hk
        have HK0 := Lib.hid hk
        have c0 := hk.1.c0
        have c1 := hk.1.c1
        obtain ⟨r0, r1, r2, r3⟩ := hk.2.1.cells
        have f0 := hk.2.1.free 0
        have f1 := hk.2.1.free 1
        have f2 := hk.2.1.free 2
        have f3 := hk.2.1.free 3
        clear hk
        go_wp2_with fail
        try rw [hW0]
        clear hW0
        refine (HCK.out _).mono ?_
        rintro ev w1 ⟨rfl, hb1⟩
        have HK1h := HK0.out.next hb1
        have HK1 := Lib.hid HK1h
        clear hb1 c0 c1 r0 r1 r2 r3 f0 f1 f2 f3
        have c0 := HK1h.1.c0
        have c1 := HK1h.1.c1
        obtain ⟨r0, r1, r2, r3⟩ := HK1h.2.1.cells
        have f0 := HK1h.2.1.free 0
        have f1 := HK1h.2.1.free 1
        have f2 := HK1h.2.1.free 2
        have f3 := HK1h.2.1.free 3
        clear HK1h
        go_wp2_with fail
        refine (H1.out _).mono ?_
        rintro ev w2 ⟨rfl, hb2⟩
        have HK2h := HK1.out.next hb2
        have HK2 := Lib.hid HK2h
        clear hb2 c0 c1 r0 r1 r2 r3 f0 f1 f2 f3
        have c0 := HK2h.1.c0
        have c1 := HK2h.1.c1
        obtain ⟨r0, r1, r2, r3⟩ := HK2h.2.1.cells
        have f0 := HK2h.2.1.free 0
        have f1 := HK2h.2.1.free 1
        have f2 := HK2h.2.1.free 2
        have f3 := HK2h.2.1.free 3
        clear HK2h
        clear c0 c1 r0 r1 r2 r3 f0 f1 f2 f3 he hadd1
        obtain ⟨sa, hsa⟩ : ∃ x, nS a = x := ⟨_, rfl⟩
        have HSA := Lib.hid hsa
        rw [hsa]
        clear hsa
        go_wp2
        go_loopw [9] (fun i wr => ∃ n : Nat, n ≤ 64 ∧ i = .int .i64 ((64 - n : Nat) : Int) ∧ nwF M O l a n = nwF M O l a 64 ∧ NwS w wr M O) (fun i _ => 64 - (RowKit.intOf i).toNat)
        case atStart => exact ⟨64, Nat.le_refl _, rfl, rfl, HK2.out⟩
        case round =>
          obtain ⟨n, hn, rfl, hf, hk⟩ := hrel
          have HF2 := Lib.hid hf
          have HK := Lib.hid hk
          have c0 := hk.1.c0
          have c1 := hk.1.c1
          obtain ⟨r0, r1, r2, r3⟩ := hk.2.1.cells
          have f0 := hk.2.1.free 0
          have f1 := hk.2.1.free 1
          have f2 := hk.2.1.free 2
          have f3 := hk.2.1.free 3
          clear hf hk
          by_cases h0 : n = 0
          · have HN0 := Lib.hid (show nwF M O l a 64 = kz 9 from by rw [← HF2.out, h0]; rfl)
            have hge : ¬ (((64 - n : Nat) : Int) < 64) := by omega
            clear h0
            go_wp2
            obtain ⟨q0, q1, q2, q3⟩ := (HK.out.2.1.set4 (a := .string ⟨#[]⟩) (b := .string ⟨#[]⟩) (c := .string ⟨#[]⟩) (d := .string ⟨#[]⟩)).cells
            exact bodyPost_ret (v := .tuple #[.agg #[.string ⟨#[]⟩, .string ⟨#[]⟩, .string ⟨#[]⟩, .string ⟨#[]⟩], .int .i64 9]) (by simp [results, Tryz.results26, go_sem, q0, q1, q2, q3]) rfl ⟨(by rw [HN0.out]; rfl), below_set4 HK.out.2.2 (by omega) _ _ _ _⟩
          · obtain ⟨p, hp⟩ : ∃ p, n = p + 1 := ⟨n - 1, by omega⟩
            have HP := Lib.hid hp
            obtain ⟨c, hc⟩ : ∃ c, 64 - n = c := ⟨_, rfl⟩
            have hci : (c : Int) < 64 := by omega
            have HCP := Lib.hid (show c = 63 - p ∧ p + 1 ≤ 64 ∧ c < 100 from by omega)
            rw [hc]
            clear hp hc h0 hn
            have hlen : (Lib.decDigits c).length ≤ 2 := by have := HCP.out; exact decDigits_len 1 c (by omega)
            have HN := Lib.hid (show nwF M O l a 64 = match hkN (num M) (num O) (nwL l c) with
              | none => kz 13
              | some b => if b = a then nwF M O l a p else .tuple #[.agg #[.string M, .string O, .string (nS a), .string (nS b)], .int .i64 0] from by
              rw [← HF2.out, HP.out, nwF, HCP.out.1] <;> (cases hkN (num M) (num O) (nwL l (63 - p)) <;> rfl))
            have h2 := HHA.out (nwL l c) (by rw [bstr_size]; unfold nwL; have := HL.out; simp; omega)
            have hadd1 : ∀ w, (Op.stringOp .add s ⟨#[46, 72]⟩).run Tryz.prog w = .ok (.string (bstr (l ++ [46, 72]))) w := fun w => by rw [HSL.out]; exact lab_add l [46, 72] (by have := HL.out; simp; omega) _ w
            have hadd2 : ∀ w, (Op.stringOp .add (bstr (l ++ [46, 72])) ⟨(Lib.decDigits c).toArray⟩).run Tryz.prog w = .ok (.string (bstr (nwL l c))) w := fun w => by
              rw [show nwL l c = (l ++ [46, 72]) ++ Lib.decDigits c from by unfold nwL; rw [List.append_assoc]]
              exact lab_add (l ++ [46, 72]) (Lib.decDigits c) (by have := HL.out; simp; omega) _ w
            have HIT := Lib.hid (r06_Decimal c (by have := HCP.out; omega))
            obtain ⟨t0, ht0⟩ : ∃ t, (ByteArray.mk (Lib.decDigits c).toArray) = t := ⟨_, rfl⟩
            obtain ⟨t3, ht3⟩ : ∃ t, bstr (l ++ [46, 72]) = t := ⟨_, rfl⟩
            obtain ⟨t2, ht2⟩ : ∃ t, bstr (nwL l c) = t := ⟨_, rfl⟩
            rw [ht3] at hadd1
            rw [ht3, ht0, ht2] at hadd2
            rw [show bstr (Lib.decDigits c) = t0 from ht0] at HIT
            rw [ht2] at h2
            clear ht0 ht2 ht3 hlen
            obtain ⟨o, ho⟩ : ∃ o, hkN (num M) (num O) (nwL l c) = o := ⟨_, rfl⟩
            rw [ho] at HN h2
            clear ho
            obtain ⟨rs, re, hre⟩ : ∃ rs re, hsO o = .tuple #[.string rs, .int .i64 re] := by cases o <;> exact ⟨_, _, rfl⟩
            rw [hre] at h2
            have HRE := Lib.hid hre
            have H2 := Lib.hid h2
            clear h2 hre
            obtain ⟨wd, hwd⟩ : ∃ wd, wr.drew = wd := ⟨_, rfl⟩
            have HKD := Lib.hid (show NwS w wd M O from by rw [← hwd]; exact HK.out.drew)
            have d0 := HKD.out.1.c0
            have d1 := HKD.out.1.c1
            clear c0 c1 r0 r1 r2 r3 f0 f1 f2 f3
            go_wp2
            refine wp_region_K 12 (Below (wd).heap.size (wd)) (by kernel_rfl) ?_
            intro hD
            rw [hwd]
            refine wpAnyK_takeSD (i := 0) (d := some 38) (v := ?v12_0b1) (fuel := 11) rfl (by kernel_rfl) (by kernel_rfl) (by kernel_rfl) (fun _ _ _ h => h) hD (Below.refl _ _) (.inl ⟨by kernel_rfl, ?y12_0b1⟩) ?n12_0b1
            case y12_0b1 => intro w' hS'; have e0 := cell_kept hS' (Nat.le_refl _) d0; have e1 := cell_kept hS' (Nat.le_refl _) d1; go_simp; with_reducible rfl
            clear hD; intro hD
            simp only [Act.put, List.setIfInBounds_toArray, List.set_cons_zero, List.set_cons_succ]
            refine wpAnyK_pureD (i := 1) (d := some 39) (v := ?v12_1b1) (fuel := 10) rfl (by kernel_rfl) (by kernel_rfl) (fun _ _ _ h => h) hD (Below.refl _ _) (.inl ⟨by kernel_rfl, ?y12_1b1⟩) ?n12_1b1
            case y12_1b1 => intro w' _; go_simp; with_reducible rfl
            clear hD; intro hD
            simp only [Act.put, List.setIfInBounds_toArray, List.set_cons_zero, List.set_cons_succ]
            refine wpAnyK_pureD (i := 2) (d := some 40) (v := ?v12_2b1) (fuel := 9) rfl (by kernel_rfl) (by kernel_rfl) (fun _ _ _ h => h) hD (Below.refl _ _) (.inl ⟨by kernel_rfl, ?y12_2b1⟩) ?n12_2b1
            case y12_2b1 => intro w' _; go_simp; with_reducible rfl
            clear hD; intro hD
            simp only [Act.put, List.setIfInBounds_toArray, List.set_cons_zero, List.set_cons_succ]
            refine wpAnyK_pureD (i := 3) (d := some 41) (v := ?v12_3b1) (fuel := 8) rfl (by kernel_rfl) (by kernel_rfl) (fun _ _ _ h => h) hD (Below.refl _ _) (.inl ⟨by kernel_rfl, ?y12_3b1⟩) ?n12_3b1
            case y12_3b1 => intro w' _; go_simp; with_reducible rfl
            clear hD; intro hD
            simp only [Act.put, List.setIfInBounds_toArray, List.set_cons_zero, List.set_cons_succ]
            refine wpAnyK_one (i := 4) (fuel := 7) (by kernel_rfl) rfl hD ?_
            clear hD; intro K4 hK4
            go_wp2_with fail
            refine (HIT.out _).mono ?_
            rintro ev w3 ⟨rfl, hb3⟩
            have HB4 := Lib.hid hb3
            clear hb3
            go_wp2
            refine hK4 _ _ (by exact HB4.out) ?_; clear hK4; intro hS_12_4 hD
            refine wpAnyK_pureD (i := 5) (d := some 43) (v := ?v12_5b1) (fuel := 6) rfl (by kernel_rfl) (by kernel_rfl) (fun _ _ _ h => h) hD hS_12_4 (.inl ⟨by kernel_rfl, ?y12_5b1⟩) ?n12_5b1
            case y12_5b1 => intro w' _; go_simp; with_reducible rfl
            clear hD; intro hD
            simp only [Act.put, List.setIfInBounds_toArray, List.set_cons_zero, List.set_cons_succ]
            refine wpAnyK_one (i := 6) (fuel := 5) (by kernel_rfl) rfl hD ?_
            clear hD; intro K6 hK6
            go_wp2_with fail
            refine (H2.out _).mono ?_
            rintro ev w4 ⟨rfl, hb4⟩
            have HB6 := Lib.hid hb4
            clear hb4
            go_wp2
            refine hK6 _ _ (by exact Below.trans hS_12_4 (Below.mono HB6.out (Below.size hS_12_4))) ?_; clear hK6; intro hS_12_6 hD
            refine wpAnyK_pureD (i := 7) (d := some 37) (v := ?v12_7b1) (fuel := 4) rfl (by kernel_rfl) (by kernel_rfl) (fun _ _ _ h => h) hD hS_12_6 (.inl ⟨by kernel_rfl, ?y12_7b1⟩) ?n12_7b1
            case y12_7b1 => intro w' _; go_simp; with_reducible rfl
            clear hD; intro hD
            simp only [Act.put, List.setIfInBounds_toArray, List.set_cons_zero, List.set_cons_succ]
            refine wpAnyK_pureD (i := 8) (d := some 45) (v := ?v12_8b1) (fuel := 3) rfl (by kernel_rfl) (by kernel_rfl) (fun _ _ _ h => h) hD hS_12_6 (.inl ⟨by kernel_rfl, ?y12_8b1⟩) ?n12_8b1
            case y12_8b1 => intro w' _; go_simp; with_reducible rfl
            clear hD; intro hD
            simp only [Act.put, List.setIfInBounds_toArray, List.set_cons_zero, List.set_cons_succ]
            refine wpAnyK_pureD (i := 9) (d := some 46) (v := ?v12_9b1) (fuel := 2) rfl (by kernel_rfl) (by kernel_rfl) (fun _ _ _ h => h) hD hS_12_6 (.inl ⟨by kernel_rfl, ?y12_9b1⟩) ?n12_9b1
            case y12_9b1 => intro w' _; go_simp; with_reducible rfl
            clear hD; intro hD
            simp only [Act.put, List.setIfInBounds_toArray, List.set_cons_zero, List.set_cons_succ]
            refine wpAnyK_one (i := 10) (fuel := 1) (by kernel_rfl) rfl hD ?_
            clear hD; intro K10 hK10
            go_wp2
            refine hK10 _ _ (by exact hS_12_6) ?_; clear hK10; intro hS_12_10 hD
            refine wpAnyK_one (i := 11) (fuel := 0) (by kernel_rfl) rfl hD ?_
            clear hD; intro K11 hK11
            go_wp2
            refine hK11 _ _ (by exact hS_12_10) ?_; clear hK11; intro hS_12_11 hD
            have HLL := Lib.hid hS_12_11
            refine wpAnyK_done (by kernel_rfl) ?_ 0
            clear hD
            have hk := HKD.out.next HLL.out
            have HKL := Lib.hid hk
            have c0 := hk.1.c0
            have c1 := hk.1.c1
            obtain ⟨r0, r1, r2, r3⟩ := hk.2.1.cells
            have f0 := hk.2.1.free 0
            have f1 := hk.2.1.free 1
            have f2 := hk.2.1.free 2
            have f3 := hk.2.1.free 3
            clear hk d0 d1 hwd
            cases o with
            | none =>
              obtain ⟨rfl, rfl⟩ : rs = ⟨#[]⟩ ∧ re = 13 := by
                have h := HRE.out
                simp only [hsO] at h
                injection h with h
                have h := congrArg Array.toList h
                simp at h
                exact ⟨h.1.symm, h.2.symm⟩
              go_wp2
              obtain ⟨q0, q1, q2, q3⟩ := (HKL.out.2.1.set4 (a := .string ⟨#[]⟩) (b := .string ⟨#[]⟩) (c := .string ⟨#[]⟩) (d := .string ⟨#[]⟩)).cells
              exact bodyPost_ret (v := .tuple #[.agg #[.string ⟨#[]⟩, .string ⟨#[]⟩, .string ⟨#[]⟩, .string ⟨#[]⟩], .int .i64 13]) (by simp [results, Tryz.results26, go_sem, q0, q1, q2, q3]) rfl ⟨(by rw [HN.out]; rfl), below_set4 HKL.out.2.2 (by omega) _ _ _ _⟩
            | some b =>
              obtain ⟨rfl, rfl⟩ : rs = nS b ∧ re = 0 := by
                have h := HRE.out
                simp only [hsO] at h
                injection h with h
                have h := congrArg Array.toList h
                simp at h
                exact ⟨h.1.symm, h.2.symm⟩
              by_cases hab : b = a
              · have HN2 := Lib.hid (show nwF M O l a p = nwF M O l a 64 from by rw [HN.out]; simp only [hab, if_true])
                rw [show nS b = sa from by rw [hab]; exact HSA.out]
                clear hab
                go_wp2
                refine ⟨⟨p, by have := HCP.out; omega, ?_, HN2.out, HKL.out⟩, ?_⟩
                · have := HCP.out; congr 1; omega
                · have := HCP.out; simp [RowKit.intOf]; omega
              · have HN2 := Lib.hid (show nwF M O l a 64 = .tuple #[.agg #[.string M, .string O, .string (nS a), .string (nS b)], .int .i64 0] from by rw [HN.out]; simp only [if_neg hab])
                have HNE := Lib.hid (show ¬ nS b = sa from fun h => hab (nS_inj (h.trans HSA.out.symm)))
                obtain ⟨sb, hsb⟩ : ∃ x, nS b = x := ⟨_, rfl⟩
                rw [hsb] at HNE ⊢
                have HSB := Lib.hid hsb
                clear hsb hab
                have hne : (sb.toList == sa.toList) = false := beq_eq_false_iff_ne.2 fun h => HNE.out (str_inj h)
                go_wp2
                obtain ⟨q0, q1, q2, q3⟩ := (HKL.out.2.1.set4 (a := .string M) (b := .string O) (c := .string sa) (d := .string sb)).cells
                exact bodyPost_ret (v := .tuple #[.agg #[.string M, .string O, .string sa, .string sb], .int .i64 0]) (by simp [results, Tryz.results26, go_sem, q0, q1, q2, q3]) rfl ⟨(by rw [HN2.out, HSA.out, HSB.out]), below_set4 HKL.out.2.2 (by omega) _ _ _ _⟩
  · have HR := Lib.hid (show nwR M O s.data.toList = kz (chkK M O) from by unfold nwR; rw [if_neg hc])
    rw [HR.out]
    obtain ⟨e, he⟩ : ∃ e, chkK M O = e := ⟨_, rfl⟩
    rw [he] at HCK hc ⊢
    unfold gV at *
    clear hM hO hs he
    go_enter Tryz.func26, Tryz.ntmps26
    have hk := NwS.new w M O
    obtain ⟨W0, hW0⟩ : ∃ W, (w.alloc (.cells #[.string M, .string O] 24)).alloc (.cells #[.string ⟨#[]⟩, .string ⟨#[]⟩, .string ⟨#[]⟩, .string ⟨#[]⟩] 26) = W := ⟨_, rfl⟩
    rw [hW0] at hk
    have HK0 := Lib.hid hk
    have c0 := hk.1.c0
    have c1 := hk.1.c1
    obtain ⟨r0, r1, r2, r3⟩ := hk.2.1.cells
    have f0 := hk.2.1.free 0
    have f1 := hk.2.1.free 1
    have f2 := hk.2.1.free 2
    have f3 := hk.2.1.free 3
    clear hk
    go_wp2_with fail
    try rw [hW0]
    clear hW0
    refine (HCK.out _).mono ?_
    rintro ev w1 ⟨rfl, hb1⟩
    have HK1h := HK0.out.next hb1
    have HK1 := Lib.hid HK1h
    clear hb1 c0 c1 r0 r1 r2 r3 f0 f1 f2 f3
    have c0 := HK1h.1.c0
    have c1 := HK1h.1.c1
    obtain ⟨r0, r1, r2, r3⟩ := HK1h.2.1.cells
    have f0 := HK1h.2.1.free 0
    have f1 := HK1h.2.1.free 1
    have f2 := HK1h.2.1.free 2
    have f3 := HK1h.2.1.free 3
    clear HK1h
    go_wp2
    obtain ⟨q0, q1, q2, q3⟩ := (HK1.out.2.1.set4 (a := .string ⟨#[]⟩) (b := .string ⟨#[]⟩) (c := .string ⟨#[]⟩) (d := .string ⟨#[]⟩)).cells
    exact bodyPost_ret (v := .tuple #[.agg #[.string ⟨#[]⟩, .string ⟨#[]⟩, .string ⟨#[]⟩, .string ⟨#[]⟩], .int .i64 e]) (by simp [results, Tryz.results26, go_sem, q0, q1, q2, q3]) rfl ⟨(by rfl), below_set4 HK1.out.2.2 (by omega) _ _ _ _⟩
end Go.Proofs.YtpdejgdkpghjhaaGreatDoor

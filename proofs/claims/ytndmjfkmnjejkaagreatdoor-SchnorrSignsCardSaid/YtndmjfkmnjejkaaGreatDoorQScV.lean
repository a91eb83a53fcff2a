/- Walk: coins.draw, where the tape has no value left; coins.draw and coins.Below in full. -/
import Derived.Test.YtndmjfkmnjejkaaGreatDoorQCoG
import Derived.Test.YtndmjfkmnjejkaaGreatDoorQCoE
import Derived.Test.YtndmjfkmnjejkaaGreatDoorQCoC
import Derived.Test.YtndmjfkmnjejkaaGreatDoorQPeR
import Derived.Deep.Cut
set_option linter.unusedVariables false
set_option linter.unusedSimpArgs false
namespace Go.Proofs.YtndmjfkmnjejkaaGreatDoor
open Go.RowKit Go.Lib
def DS (w wr : World) (A : Option Addr) (n cap : Nat) (s : ByteArray) (k : Int) (b7 c7 : Nat) (l : List ByteArray) : Prop :=
  TB wr w.heap.size A n cap s k ∧ TB wr (w.heap.size + 1) none 0 0 ⟨#[]⟩ 0 ∧ TB wr b7 (some ⟨c7, 0, none⟩) n n s (k + 1) ∧ wr.heap[c7]? = some (.cells (l.map Value.string).toArray 22 (0, 0)) ∧ Below w.heap.size w wr
theorem DS.next {w wr W : World} {A : Option Addr} {n cap : Nat} {s : ByteArray} {k : Int} {b7 c7 : Nat} {l : List ByteArray} (h : DS w wr A n cap s k b7 c7 l) (hb : Below wr.heap.size wr W) : DS w W A n cap s k b7 c7 l :=
  ⟨h.1.nextT hb, h.2.1.nextT hb, h.2.2.1.nextT hb, (hb.block _ (block_lt h.2.2.2.1)).trans h.2.2.2.1, h.2.2.2.2.trans (hb.mono h.2.2.2.2.size)⟩
theorem attN_lt (s : List UInt8) (k a b : Nat) : attN s k a b < 2 ^ b := Nat.mod_lt _ (Nat.two_pow_pos b)
set_option maxRecDepth 100000 in
set_option maxHeartbeats 4000000 in
theorem co_drawS (l : List ByteArray) (s : ByteArray) (k N : Nat) (A : Option Addr) (n cap : Nat) (hk : n ≤ k) (hk2 : k ≤ 2147483647) (hn : n ≤ 1000) (hs64 : s.size ≤ 1000000) (hN0 : 0 < N) (hN : N < 256 ^ 32) (w : World) (hs : SlN w A n cap l) (ht : T10 w) :
    Calls Tryz.prog 97 #[tpV A n cap s k, .string (nS N)] w (RetC (dwN l s k N) (tpN (dwN l s k N).2 l s k) w) := by
  have HLEN := Lib.hid hs.1
  have hcap := hs.2.1
  have hcap2 := hs.2.2.1
  have hdw : dwN l s k N = if s.toList.isEmpty = true ∨ (k : Int) = 2147483647 then ((0, 14) : Nat × Int) else match drwF (fun a => attN s.data.toList k a (blen N)) N with
    | some x => ((x, 0) : Nat × Int)
    | none => (0, 14) := by
    unfold dwN
    rw [if_neg (by have := hs.1; omega), Int.toNat_natCast]
    split
    · rfl
    · cases drwF (fun a => attN s.data.toList k a (blen N)) N <;> rfl
  have HT10 := Lib.hid ht
  have hb1 := ((Below.refl w.heap.size w).alloc (Nat.le_refl _) (.cells #[.slice A n cap, .string s, .int .i64 k] 31)).alloc (by simp) (.cells #[.slice none 0 0, .string ⟨#[]⟩, .int .i64 0] 31)
  have ht1 : TB ((w.alloc (.cells #[.slice A n cap, .string s, .int .i64 k] 31)).alloc (.cells #[.slice none 0 0, .string ⟨#[]⟩, .int .i64 0] 31)) w.heap.size A n cap s k := (TB.new w A n cap s k).nextT ((Below.refl _ _).alloc (Nat.le_refl _) _)
  have hr1 : TB ((w.alloc (.cells #[.slice A n cap, .string s, .int .i64 k] 31)).alloc (.cells #[.slice none 0 0, .string ⟨#[]⟩, .int .i64 0] 31)) (w.heap.size + 1) none 0 0 ⟨#[]⟩ 0 := by
    have := TB.new (w.alloc (.cells #[.slice A n cap, .string s, .int .i64 k] 31)) none 0 0 ⟨#[]⟩ 0
    rwa [World.size_alloc] at this
  obtain ⟨W1, hW1⟩ : ∃ W, (w.alloc (.cells #[.slice A n cap, .string s, .int .i64 k] 31)).alloc (.cells #[.slice none 0 0, .string ⟨#[]⟩, .int .i64 0] 31) = W := ⟨_, rfl⟩
  have HSZ := Lib.hid (show W1.heap.size = w.heap.size + 1 + 1 from by rw [← hW1]; simp)
  rw [hW1] at hb1 ht1 hr1
  have HB1 := Lib.hid hb1
  have HT1 := Lib.hid ht1
  have HR1 := Lib.hid hr1
  have hs1 := hs.kept hb1 (Nat.le_refl _)
  have HS0 := Lib.hid hs
  have HS1 := Lib.hid hs1
  obtain ⟨c0, c1, c2⟩ := ht1.c
  obtain ⟨r0, r1, r2⟩ := hr1.c
  have f0 := hr1.f 0
  have f1 := hr1.f 1
  have f2 := hr1.f 2
  have hnk : ¬ (k < n) := by omega
  have hnki : ¬ ((k : Int) < (n : Int)) := by omega
  have hnk2 : (n : Int) ≤ (k : Int) := by omega
  have hdk1 : decide (k < n) = false := decide_eq_false hnk
  have hdk2 : decide ((k : Int) < (n : Int)) = false := decide_eq_false hnki
  obtain ⟨M, hM⟩ : ∃ M, nS N = M := ⟨_, rfl⟩
  have HMM := Lib.hid hM
  rw [hM]
  unfold tpV
  by_cases he : s.toList.isEmpty = true ∨ (k : Int) = 2147483647
  · rw [if_pos he] at hdw
    rw [hdw]
    have hq := hr1.set3 (A' := none) (n' := 0) (c' := 0) (s' := ⟨#[]⟩) (a' := 0)
    obtain ⟨q0, q1, q2⟩ := hq.c
    have HBQ := Lib.hid (below_set3 HB1.out (C := w.heap.size + 1) (by omega) (.slice none 0 0) (.string ⟨#[]⟩) (.int .i64 0))
    clear hr1 hq hdw hs hb1 ht1 hs1 hN0 hN hM ht hs64
    have hee : s.toList.isEmpty = true ∨ (s.toList.isEmpty = false ∧ (k : Int) = 2147483647) := by
      cases hx : s.toList.isEmpty with
      | true => exact .inl rfl
      | false => rw [hx] at he; exact .inr ⟨rfl, by simpa using he⟩
    rcases hee with h1 | ⟨h1, h2⟩
    · clear he
      go_enter Tryz.func97, Tryz.ntmps97
      go_wp2
      refine bodyPost_ret (v := .tuple #[.string ⟨#[]⟩, .agg #[.slice none 0 0, .string ⟨#[]⟩, .int .i64 0], .int .i64 14]) (by simp [results, Tryz.results97, go_sem, q0, q1, q2]) rfl ?_
      exact ⟨none, 0, rfl, SlN.nil _ 0 (by omega) none, (fun b o h => by cases h), HBQ.out⟩
    · have h2' : ((k : Int) == 2147483647) = true := beq_iff_eq.2 h2
      clear he h2
      go_enter Tryz.func97, Tryz.ntmps97
      go_wp2
      refine bodyPost_ret (v := .tuple #[.string ⟨#[]⟩, .agg #[.slice none 0 0, .string ⟨#[]⟩, .int .i64 0], .int .i64 14]) (by simp [results, Tryz.results97, go_sem, q0, q1, q2]) rfl ?_
      exact ⟨none, 0, rfl, SlN.nil _ 0 (by omega) none, (fun b o h => by cases h), HBQ.out⟩
  · rw [if_neg he] at hdw
    have h1 : s.toList.isEmpty = false := by
      cases hx : s.toList.isEmpty with
      | true => exact absurd (.inl hx) he
      | false => rfl
    have h2' : ((k : Int) == 2147483647) = false := beq_eq_false_iff_ne.2 (fun h => he (.inr h))
    have hkk : k < 2147483647 := by
      rcases Nat.lt_or_ge k 2147483647 with h | h
      · exact h
      · exact absurd (.inr (by omega)) he
    have hkm : (k : Int) < 2147483647 := by omega
    obtain ⟨b, hb⟩ : ∃ b, blen N = b := ⟨_, rfl⟩
    have hb256 : b ≤ 256 := by rw [← hb]; exact blen_le8 (k := 32) hN
    have hb0 : 0 < b := by
      rcases Nat.eq_zero_or_pos b with h | h
      · have := blen_lt N; rw [hb, h] at this; omega
      · exact h
    obtain ⟨f, hf⟩ : ∃ f : Nat → Nat, (fun a => attN s.data.toList k a b) = f := ⟨_, rfl⟩
    rw [hb, hf] at hdw
    have HBI := Lib.hid (nat_Bits N (Nat.lt_trans hN (by decide)))
    have HAT := Lib.hid (fun a (ha : a < 256) W hW => co_attempt A n cap s k a b hs64 (by omega) ha hb0 hb256 W hW)
    have hfl : ∀ a, f a < 256 ^ 128 := fun a => by
      rw [← hf]
      exact Nat.lt_of_lt_of_le (attN_lt _ _ _ _) (Nat.le_trans (Nat.pow_le_pow_right (by omega) hb256) (by decide))
    have HCM := Lib.hid (fun a => nat_Cmp (nS (f a)) (nS N) (by have := nS_size_le.2 (hfl a); omega) (by have := nS_size_le.2 (Nat.lt_trans hN (show 256 ^ 32 < 256 ^ 128 by decide)); omega))
    have HCN := Lib.hid (fun a => ncmp_n (hfl a) (Nat.lt_trans hN (show 256 ^ 32 < 256 ^ 128 by decide)))
    have HFE := Lib.hid (fun a => (show attN s.data.toList k a b = f a from by rw [← hf]))
    rw [hb, HMM.out] at HBI
    rw [HMM.out] at HCM
    obtain ⟨r, hr⟩ : ∃ r, dwN l s k N = r := ⟨_, rfl⟩
    have HR := Lib.hid (hdw.symm.trans hr)
    rw [hr]
    have HN1 := Lib.hid hn
    have HK := Lib.hid hk
    clear hr hdw hs hb1 ht1 hr1 hs1 hN0 hN hM ht hs64 he hb hf hfl hb256 hb0 hnk hk2 hn
    go_enter Tryz.func97, Tryz.ntmps97
    go_wp2
    rename_i K5 hK5
    refine wp_onlyN ?_
    obtain ⟨wd, hwd⟩ : ∃ wd, W1.drew = wd := ⟨_, rfl⟩
    have hbd : Below W1.heap.size W1 wd := by rw [← hwd]; exact (Below.refl _ _).drew
    have HTD := Lib.hid (HT1.out.nextT hbd)
    have HRD := Lib.hid (HR1.out.nextT hbd)
    have HBD := Lib.hid (HB1.out.trans (hbd.mono HB1.out.size))
    have HSZD := Lib.hid (show w.heap.size + 1 < wd.heap.size from by have := hbd.size; have := HSZ.out; omega)
    clear hbd c0 c1 c2 r0 r1 r2 f0 f1 f2
    obtain ⟨c0, c1, c2⟩ := HTD.out.c
    have hmk := fun W => make_nats n (by have := HN1.out; omega) W
    have hk1 := hkm
    apply join2 (K := K5) (Fc := NT wd n s ((k : Int) + 1))
    · intro HJ
      have HJ := Lib.hid HJ
      refine wp_region_K 12 (Below (wd).heap.size (wd)) (by kernel_rfl) ?_
      intro hD
      rw [hwd]
      refine rP 0 45 11 rfl hD (Below.refl _ _) ?_; clear hD; intro hD; simp only [Act.put, sqA, sqB, sqC]
      refine rT 1 46 10 rfl hD (Below.refl _ _) (by intro w' hS'; have e0 := kC hS' c0; have e1 := kC hS' c1; have e2 := kC hS' c2; go_simp; with_reducible rfl) ?_; clear hD; intro hD; simp only [Act.put, sqA, sqB, sqC]
      refine rP 2 47 9 rfl hD (Below.refl _ _) ?_; clear hD; intro hD; simp only [Act.put, sqA, sqB, sqC]
      refine rP 4 49 8 rfl hD (Below.refl _ _) ?_; clear hD; intro hD; simp only [Act.put, sqA, sqB, sqC]
      refine rT 5 50 7 rfl hD (Below.refl _ _) (by intro w' hS'; have e0 := kC hS' c0; have e1 := kC hS' c1; have e2 := kC hS' c2; go_simp; with_reducible rfl) ?_; clear hD; intro hD; simp only [Act.put, sqA, sqB, sqC]
      refine rP 6 51 6 rfl hD (Below.refl _ _) ?_; clear hD; intro hD; simp only [Act.put, sqA, sqB, sqC]
      refine rT 7 52 5 rfl hD (Below.refl _ _) (by intro w' hS'; have e0 := kC hS' c0; have e1 := kC hS' c1; have e2 := kC hS' c2; go_simp; with_reducible rfl) ?_; clear hD; intro hD; simp only [Act.put, sqA, sqB, sqC]
      refine rP 8 53 4 rfl hD (Below.refl _ _) ?_; clear hD; intro hD; simp only [Act.put, sqA, sqB, sqC]
      refine wpAnyK_two (i := 3) (i' := 10) (fuel := 3) (by kernel_rfl) rfl rfl hD ?_ ?_ 
      · unfold StepK
        clear hD; intro K3 hK3
        go_wp2
        refine hK3 _ _ (by exact (Below.refl _ _).alloc (Nat.le_refl _) _) ?_; clear hK3; intro hS_5_3 hD
        refine rP 9 54 2 rfl hD hS_5_3 ?_; clear hD; intro hD; simp only [Act.put, sqA, sqB, sqC]
        refine rO 10 1 rfl hD ?_; clear hD; intro K10 hK10
        go_wp2
        refine hK10 _ _ (by exact Below.alloc hS_5_3 (Below.size hS_5_3) _) ?_; clear hK10; intro hS_5_10_3 hD
        refine rO 11 0 rfl hD ?_; clear hD; intro K11 hK11
        go_wp2
        refine hK11 _ _ (by exact ((Below.refl _ _).alloc (Nat.le_refl _) _).alloc (by simp) _) ?_; clear hK11; intro hS_5_11_3 hD
        refine wpAnyK_done (by kernel_rfl) ?_ 0
        clear hD
        show K5 _ _
        first
        | (have hF := NT.a wd n s ((k : Int) + 1)
           obtain ⟨wz, hwz⟩ : ∃ W, (wd.alloc (.cells (madeCells #[.string ⟨#[]⟩] n) 22)).alloc (.cells #[.slice (some ⟨wd.heap.size, 0, none⟩) n n, .string s, .int .i64 ((k : Int) + 1)] 31) = W := ⟨_, rfl⟩
           rw [hwz] at hF ⊢
           clear hwz
           obtain ⟨p, hp⟩ : ∃ p, wd.heap.size + 1 = p := ⟨_, rfl⟩
           rw [hp] at hF ⊢
           obtain ⟨q, hq⟩ : ∃ q, wd.heap.size = q := ⟨_, rfl⟩
           rw [hq] at hF ⊢
           exact HJ.out p q _ hF)
        | (have hF := NT.b wd n s ((k : Int) + 1)
           obtain ⟨wz, hwz⟩ : ∃ W, (wd.alloc (.cells #[.slice (some ⟨wd.heap.size + 1, 0, none⟩) n n, .string s, .int .i64 ((k : Int) + 1)] 31)).alloc (.cells (madeCells #[.string ⟨#[]⟩] n) 22) = W := ⟨_, rfl⟩
           rw [hwz] at hF ⊢
           clear hwz
           obtain ⟨p, hp⟩ : ∃ p, wd.heap.size + 1 = p := ⟨_, rfl⟩
           rw [hp] at hF ⊢
           obtain ⟨q, hq⟩ : ∃ q, wd.heap.size = q := ⟨_, rfl⟩
           rw [hq] at hF ⊢
           exact HJ.out q p _ hF)
      · unfold StepK
        clear hD; intro K10 hK10
        go_wp2
        refine hK10 _ _ (by exact (Below.refl _ _).alloc (Nat.le_refl _) _) ?_; clear hK10; intro hS_5_10 hD
        refine rO 3 2 rfl hD ?_; clear hD; intro K3 hK3
        go_wp2
        refine hK3 _ _ (by exact Below.alloc hS_5_10 (Below.size hS_5_10) _) ?_; clear hK3; intro hS_5_3_10 hD
        refine rP 9 54 1 rfl hD hS_5_3_10 ?_; clear hD; intro hD; simp only [Act.put, sqA, sqB, sqC]
        refine rO 11 0 rfl hD ?_; clear hD; intro K11 hK11
        go_wp2
        refine hK11 _ _ (by exact ((Below.refl _ _).alloc (Nat.le_refl _) _).alloc (by simp) _) ?_; clear hK11; intro hS_5_11_10 hD
        refine wpAnyK_done (by kernel_rfl) ?_ 0
        clear hD
        show K5 _ _
        first
        | (have hF := NT.a wd n s ((k : Int) + 1)
           obtain ⟨wz, hwz⟩ : ∃ W, (wd.alloc (.cells (madeCells #[.string ⟨#[]⟩] n) 22)).alloc (.cells #[.slice (some ⟨wd.heap.size, 0, none⟩) n n, .string s, .int .i64 ((k : Int) + 1)] 31) = W := ⟨_, rfl⟩
           rw [hwz] at hF ⊢
           clear hwz
           obtain ⟨p, hp⟩ : ∃ p, wd.heap.size + 1 = p := ⟨_, rfl⟩
           rw [hp] at hF ⊢
           obtain ⟨q, hq⟩ : ∃ q, wd.heap.size = q := ⟨_, rfl⟩
           rw [hq] at hF ⊢
           exact HJ.out p q _ hF)
        | (have hF := NT.b wd n s ((k : Int) + 1)
           obtain ⟨wz, hwz⟩ : ∃ W, (wd.alloc (.cells #[.slice (some ⟨wd.heap.size + 1, 0, none⟩) n n, .string s, .int .i64 ((k : Int) + 1)] 31)).alloc (.cells (madeCells #[.string ⟨#[]⟩] n) 22) = W := ⟨_, rfl⟩
           rw [hwz] at hF ⊢
           clear hwz
           obtain ⟨p, hp⟩ : ∃ p, wd.heap.size + 1 = p := ⟨_, rfl⟩
           rw [hp] at hF ⊢
           obtain ⟨q, hq⟩ : ∃ q, wd.heap.size = q := ⟨_, rfl⟩
           rw [hq] at hF ⊢
           exact HJ.out q p _ hF)
    · intro b7 c7 wz hz
      obtain ⟨ht7, hc7, hbz, hb7, hc7', hne⟩ := hz
      refine hK5 _ _ ?_
      clear hK5 hmk c0 c1 c2
      have HTZ := Lib.hid (HTD.out.nextT hbz)
      have HRZ := Lib.hid (HRD.out.nextT hbz)
      have HBZ := Lib.hid (HBD.out.trans (hbz.mono HBD.out.size))
      have HSL := Lib.hid (HS0.out.kept HBZ.out (Nat.le_refl _))
      have H7 := Lib.hid ht7
      have HC7 := Lib.hid hc7
      have HX := Lib.hid (show w.heap.size + 1 < b7 ∧ w.heap.size + 1 < c7 ∧ b7 ≠ c7 from by have := HSZD.out; omega)
      obtain ⟨c0, c1, c2⟩ := HTZ.out.c
      obtain ⟨p0, p1, p2⟩ := ht7.c
      clear ht7 hc7 hbz hb7 hc7' hne
      go_wp2_with (refine wpList_copy_nats rfl (.tmp 56) (.tmp 58) rfl c7 n cap _ l rfl rfl HC7.out HSL.out w.heap.size w HBZ.out (by have := HX.out; omega) ?_)
      intro w3 hc3 ho3 hb3
      have ht3 : TB w3 w.heap.size (A) n cap s k := (ho3 _ (by have := HX.out; omega)).trans HTZ.out
      have hr3 : TB w3 (w.heap.size + 1) none 0 0 ⟨#[]⟩ 0 := (ho3 _ (by have := HX.out; omega)).trans HRZ.out
      have h73 : TB w3 b7 (some ⟨c7, 0, none⟩) n n s ((k : Int) + 1) := (ho3 _ (by have := HX.out; omega)).trans H7.out
      have HDS := Lib.hid (show DS w w3 A n cap s k b7 c7 l from ⟨ht3, hr3, h73, hc3, hb3⟩)
      clear c0 c1 c2 p0 p1 p2 hc3 ho3 hb3 ht3 hr3 h73 HTD HRD HBD HTZ HRZ HBZ HSL H7 HC7 HS0 HS1 HB1 HT1 HR1 HSZ HSZD
      clear hk1 hkm hkk h2' hcap2
      obtain ⟨c0, c1, c2⟩ := HDS.out.1.c
      go_wp2
      clear c0 c1 c2
      go_loopw [73] (fun v wr => ∃ a : Nat, a ≤ 256 ∧ v = .int .i64 a ∧ (∀ j, j < a → ¬ f j < N) ∧ DS w wr A n cap s k b7 c7 l) (fun v _ => 256 - (RowKit.intOf v).toNat)
      case atStart => exact ⟨0, by omega, rfl, fun j h => by omega, HDS.out⟩
      case round =>
        obtain ⟨a, ha, rfl, hno, hds⟩ := hrel
        have HNO := Lib.hid hno
        have HDW := Lib.hid hds
        clear hno hds
        by_cases hlt : a < 256
        · have hai : (a : Int) < 256 := by omega
          have HLT := Lib.hid hlt
          go_wp2
          obtain ⟨wd, hwd⟩ : ∃ wd, wr.drew = wd := ⟨_, rfl⟩
          have hdd : DS w wd A n cap s k b7 c7 l := by rw [← hwd]; exact HDW.out.next (Below.refl _ _).drew
          have HDd := Lib.hid hdd
          have HATa := Lib.hid (HAT.out a HLT.out wd (HT10.out.kept hdd.2.2.2.2 (Nat.le_refl _)))
          have HCMa := Lib.hid (HCM.out a)
          have hcm := cmpI_ltP (x := f a) (y := N)
          obtain ⟨k1, hk1⟩ : ∃ k1, ncmp (nS (f a)) M = k1 := ⟨_, rfl⟩
          have hk1' : cmpI (f a) N = k1 := by rw [← hk1, ← HMM.out, HCN.out a]
          rw [hk1] at HCMa
          rw [hk1'] at hcm
          rw [HFE.out a] at HATa
          obtain ⟨x, hx⟩ : ∃ x, nS (f a) = x := ⟨_, rfl⟩
          rw [hx] at HCMa HATa
          have HX1 := Lib.hid hx
          have HC1 := Lib.hid hcm
          unfold tpV at HATa
          clear hdd hk1 hk1' hx hcm
          obtain ⟨c0, c1, c2⟩ := HDd.out.1.c
          refine wp_region_K 6 (Below (wd).heap.size (wd)) (by kernel_rfl) ?_
          intro hD
          rw [hwd]
          refine rT 0 76 5 rfl hD (Below.refl _ _) (by intro w' hS'; have e0 := kC hS' c0; have e1 := kC hS' c1; have e2 := kC hS' c2; go_simp; with_reducible rfl) ?_; clear hD; intro hD; simp only [Act.put, sqA, sqB, sqC]
          refine rP 1 77 4 rfl hD (Below.refl _ _) ?_; clear hD; intro hD; simp only [Act.put, sqA, sqB, sqC]
          refine rP 2 78 3 rfl hD (Below.refl _ _) ?_; clear hD; intro hD; simp only [Act.put, sqA, sqB, sqC]
          refine rO 3 2 rfl hD ?_; clear hD; intro K3 hK3
          go_wp2_with fail
          refine (HBI.out _).mono ?_
          rintro ev w4 ⟨rfl, rfl⟩
          have HB3 := Lib.hid (Below.refl wd.heap.size wd)
          go_wp2
          refine hK3 _ _ (by exact HB3.out) ?_; clear hK3; intro hS_12_3 hD
          refine rO 4 1 rfl hD ?_; clear hD; intro K4 hK4
          go_wp2_with fail
          refine HATa.out.mono ?_
          rintro ev w5 ⟨rfl, hb⟩
          have HB4 := Lib.hid hb
          clear hb
          go_wp2
          refine hK4 _ _ (by exact Below.trans hS_12_3 (Below.mono HB4.out (Below.size hS_12_3))) ?_; clear hK4; intro hS_12_4 hD
          refine rO 5 0 rfl hD ?_; clear hD; intro K5 hK5
          go_wp2
          refine hK5 _ _ (by exact hS_12_4) ?_; clear hK5; intro hS_12_5 hD
          refine wpAnyK_done (by kernel_rfl) ?_ 0
          clear hD
          have HD5 := Lib.hid (HDd.out.next HB4.out)
          clear c0 c1 c2
          go_wp2_with fail
          refine (HCMa.out _).mono ?_
          rintro ev w6 ⟨rfl, rfl⟩
          by_cases hfn : f a < N
          · have hneg : k1 < 0 := by rw [HC1.out]; exact hfn
            have HRV := Lib.hid (show r = (f a, 0) from by rw [← HR.out, drwF_at HLT.out HNO.out hfn])
            clear hfn
            go_wp2
            obtain ⟨we, hwe⟩ : ∃ we, w5.drew = we := ⟨_, rfl⟩
            have HE := Lib.hid (show DS w we A n cap s k b7 c7 l from by rw [← hwe]; exact HD5.out.next (Below.refl _ _).drew)
            have HS0E := Lib.hid (show Below w.heap.size w we ∧ TB we b7 (some ⟨c7, 0, none⟩) n n s ((k : Int) + 1) from ⟨HE.out.2.2.2.2, HE.out.2.2.1⟩)
            obtain ⟨r0, r1, r2⟩ := HE.out.2.1.c
            have f0 := HE.out.2.1.f 0
            have f1 := HE.out.2.1.f 1
            have f2 := HE.out.2.1.f 2
            refine wp_region_K 5 (fun W' => Below w.heap.size w W' ∧ TB W' b7 (some ⟨c7, 0, none⟩) n n s ((k : Int) + 1)) (by kernel_rfl) ?_
            intro hD
            rw [hwe]
            refine rP 0 85 4 rfl hD HS0E.out ?_; clear hD; intro hD; simp only [Act.put, sqA, sqB, sqC]
            refine rT 1 86 3 rfl hD HS0E.out (by intro w' hS'; have e0 := hS'.2.c.1; have e1 := hS'.2.c.2.1; have e2 := hS'.2.c.2.2; go_simp; with_reducible rfl) ?_; clear hD; intro hD; simp only [Act.put, sqA, sqB, sqC]
            refine rO 2 2 rfl hD ?_; clear hD; intro K2 hK2
            go_wp2
            refine hK2 _ _ (by exact HS0E.out) ?_; clear hK2; intro hS_14_2 hD
            refine rO 3 1 rfl hD ?_; clear hD; intro K3 hK3
            go_wp2
            refine hK3 _ _ (by exact ⟨below_set3 (hS_14_2).1 (by omega) _ _ _, (((hS_14_2).2.off (by have := HX.out; omega) _).off (by have := HX.out; omega) _).off (by have := HX.out; omega) _⟩) ?_; clear hK3; intro hS_14_3 hD
            refine rO 4 0 rfl hD ?_; clear hD; intro K4 hK4
            go_wp2
            refine hK4 _ _ (by exact hS_14_3) ?_; clear hK4; intro hS_14_4 hD
            refine wpAnyK_done (by kernel_rfl) ?_ 0
            clear hD r0 r1 r2 f0 f1 f2
            have hq := HE.out.2.1.set3 (A' := some (⟨c7, 0, none⟩ : Addr)) (n' := n) (c' := n) (s' := s) (a' := (k : Int) + 1)
            obtain ⟨q0, q1, q2⟩ := hq.c
            have HBQ := Lib.hid (hS_14_4).1
            clear hq
            go_wp2
            refine bodyPost_ret (v := .tuple #[.string x, .agg #[.slice (some ⟨c7, 0, none⟩) n n, .string s, .int .i64 ((k : Int) + 1)], .int .i64 0]) (by simp [results, Tryz.results97, go_sem, q0, q1, q2]) rfl ?_
            rw [HRV.out]
            refine ⟨some ⟨c7, 0, none⟩, n, ?_, ?_, (fun b o h => by cases h; have := HX.out; omega), HBQ.out⟩
            · show _ = Ending.returned (.tuple #[.string (nS (f a)), .agg #[.slice (some ⟨c7, 0, none⟩) l.length n, .string s, .int .i64 ((k : Int) + 1)], .int .i64 0])
              rw [HLEN.out, HX1.out]
            · show SlN _ _ l.length n l
              have hne : c7 ≠ w.heap.size + 1 := by have := HX.out; omega
              have hc8 : (((we.setCell ⟨w.heap.size + 1, 0, none⟩ (.slice (some ⟨c7, 0, none⟩) n n)).setCell ⟨w.heap.size + 1, 1, none⟩ (.string s)).setCell ⟨w.heap.size + 1, 2, none⟩ (.int .i64 ((k : Int) + 1))).heap[c7]? = some (.cells (l.map Value.string).toArray 22 (0, 0)) :=
                (heap_setCell_other _ _ _ _ hne).trans ((heap_setCell_other _ _ _ _ hne).trans ((heap_setCell_other _ _ _ _ hne).trans HE.out.2.2.2.1))
              have := sln_heap hc8 (by have := HLEN.out; have := HN1.out; omega)
              rwa [HLEN.out] at this ⊢
          · have hneg : ¬ (k1 < 0) := by rw [HC1.out]; exact hfn
            have HNN := Lib.hid (show ∀ j, j < a + 1 → ¬ f j < N from fun j hj => by
              rcases Nat.lt_or_ge j a with h | h
              · exact HNO.out j h
              · obtain rfl : j = a := by omega
                exact hfn)
            clear hfn
            go_wp2
            trace_state
            go_roundw
            case rel => exact ⟨a + 1, by have := HLT.out; omega, by go_num, HNN.out, HD5.out⟩
            case measure => have := HLT.out; simp [RowKit.intOf]; omega
        · obtain rfl : a = 256 := by omega
          have HRV := Lib.hid (show r = (0, 14) from by rw [← HR.out, drwF_none HNO.out])
          have hai : ¬ (((256 : Nat) : Int) < 256) := by omega
          obtain ⟨r0, r1, r2⟩ := HDW.out.2.1.c
          have f0 := HDW.out.2.1.f 0
          have f1 := HDW.out.2.1.f 1
          have f2 := HDW.out.2.1.f 2
          have hq := HDW.out.2.1.set3 (A' := none) (n' := 0) (c' := 0) (s' := ⟨#[]⟩) (a' := 0)
          obtain ⟨q0, q1, q2⟩ := hq.c
          have HBQ := Lib.hid (below_set3 HDW.out.2.2.2.2 (C := w.heap.size + 1) (by omega) (.slice none 0 0) (.string ⟨#[]⟩) (.int .i64 0))
          clear hq hlt ha
          go_wp2
          refine bodyPost_ret (v := .tuple #[.string ⟨#[]⟩, .agg #[.slice none 0 0, .string ⟨#[]⟩, .int .i64 0], .int .i64 14]) (by simp [results, Tryz.results97, go_sem, q0, q1, q2]) rfl ?_
          rw [HRV.out]
          exact ⟨none, 0, rfl, SlN.nil _ 0 (by omega) none, (fun b o h => by cases h), HBQ.out⟩
end Go.Proofs.YtndmjfkmnjejkaaGreatDoor
/- coins.Below in full, for short seeds and bounds. -/
set_option linter.unusedVariables false
set_option linter.unusedSimpArgs false
namespace Go.Proofs.YtndmjfkmnjejkaaGreatDoor
open Go.RowKit Go.Lib
theorem tpG_parts {l : List ByteArray} {k : Int} (h : tpG l k = true) : 0 ≤ k ∧ k ≤ 2147483647 ∧ l.all nvalid = true := by
  unfold tpG at h
  rw [Bool.and_eq_true, Bool.and_eq_true] at h
  exact ⟨of_decide_eq_true h.1.1, of_decide_eq_true h.1.2, h.2⟩
theorem co_draw (l : List ByteArray) (s : ByteArray) (k : Int) (N : Nat) (A : Option Addr) (n cap : Nat) (hg : tpG l k = true) (hn : n ≤ 1000) (hs64 : s.size ≤ 1000000) (hN0 : 0 < N) (hN : N < 256 ^ 32) (w : World) (hs : SlN w A n cap l) (ht : T10 w) :
    Calls Tryz.prog 97 #[tpV A n cap s k, .string (nS N)] w (RetC (dwN l s k N) (tpN (dwN l s k N).2 l s k) w) := by
  obtain ⟨h0, h1, hall⟩ := tpG_parts hg
  obtain ⟨q, rfl⟩ : ∃ q : Nat, k = (q : Int) := ⟨k.toNat, by omega⟩
  by_cases hq : q < n
  · have hlen := hs.1
    obtain ⟨y, hy⟩ : ∃ y, l[q]? = some y := ⟨_, List.getElem?_eq_getElem (by omega)⟩
    have e : dwN l s q N = if num y < N then (num y, 0) else (0, 2) := by
      unfold dwN
      rw [if_pos (by omega), Int.toNat_natCast, List.getD_eq_getElem?_getD, hy]
      rfl
    rw [e]
    exact co_drawV l s q N A n cap y hy hq hn (List.all_eq_true.1 hall y (List.mem_of_getElem? hy)) (Nat.lt_trans hN (by decide)) w hs
  · exact co_drawS l s q N A n cap (by omega) (by omega) hn hs64 hN0 hN w hs ht
theorem co_Below (l : List ByteArray) (s : ByteArray) (k : Int) (N : ByteArray) (A : Option Addr) (n cap : Nat) (hn : n ≤ 1000) (hp : ∀ x ∈ l, x.size ≤ 9223372036854775807) (hs64 : s.size ≤ 1000000) (hN : N.size ≤ 32) (w : World) (hs : SlN w A n cap l) (ht : T10 w) :
    Calls Tryz.prog 49 #[tpV A n cap s k, .string N] w (RetC (coN l s k N) (tpN (coN l s k N).2 l s k) w) := by
  refine co_Below_of l s k N A n cap hp (by omega) w (fun hg hv he W hb hsW => ?_) hs
  have hlt : num N < 256 ^ 32 := Nat.lt_of_lt_of_le (num_lt_size N) (Nat.pow_le_pow_right (by omega) hN)
  have hpos : 0 < num N := by
    rcases Nat.eq_zero_or_pos (num N) with h | h
    · rw [nS_num hv, h, show (nS 0).toList.isEmpty = true from sempty_true rfl] at he
      cases he
    · exact h
  have := co_draw l s k (num N) A n cap hg hn hs64 hpos hlt W hsW (ht.kept hb (Nat.le_refl _))
  rwa [← nS_num hv] at this
end Go.Proofs.YtndmjfkmnjejkaaGreatDoor
/- Walk: schnorr.Sign. -/
set_option linter.unusedVariables false
set_option linter.unusedSimpArgs false
namespace Go.Proofs.YtndmjfkmnjejkaaGreatDoor
open Go.RowKit Go.Lib
def sgN (M O G Y X msg : ByteArray) (l : List ByteArray) (s : ByteArray) (k : Int) : Nat × Nat × Int :=
  if scK M O G Y = 0 then
    if (nvalid X && tpG l k) = true then
      if decide (0 < num X ∧ num X < num O ∧ num G ^ num X % num M = num Y) = true then
        (if (coN l s k O).2 = 0 then
          (chS M O G Y (num G ^ (coN l s k O).1 % num M) msg, (chS M O G Y (num G ^ (coN l s k O).1 % num M) msg * num X % num O + (coN l s k O).1) % num O, 0)
        else (0, 0, (coN l s k O).2))
      else (0, 0, 1)
    else (0, 0, 3)
  else (0, 0, scK M O G Y)
def RetS (r : Nat × Nat × Int) (t : List ByteArray × ByteArray × Int) (w : World) (en : Ending) (w' : World) : Prop :=
  ∃ A c, en = .returned (.tuple #[.agg #[.string (nS r.1), .string (nS r.2.1)], .agg #[.slice A t.1.length c, .string t.2.1, .int .i64 t.2.2], .int .i64 r.2.2]) ∧ SlN w' A t.1.length c t.1 ∧ (∀ b o, A = some ⟨b, o, none⟩ → w.heap.size ≤ b) ∧ Below w.heap.size w w'
def SN (w W : World) (M O G Y : ByteArray) (A : Option Addr) (n cap : Nat) (s : ByteArray) (k : Int) (l : List ByteArray) : Prop :=
  Bx4 W w.heap.size (.string M) (.string O) (.string G) (.string Y) 46 ∧ TB W (w.heap.size + 1) A n cap s k ∧ Bx2 W (w.heap.size + 1 + 1) (.string ⟨#[]⟩) (.string ⟨#[]⟩) 52 ∧ TB W (w.heap.size + 1 + 1 + 1) none 0 0 ⟨#[]⟩ 0 ∧ SlN W A n cap l ∧ Below w.heap.size w W
theorem SN.next {w W W' : World} {M O G Y : ByteArray} {A : Option Addr} {n cap : Nat} {s : ByteArray} {k : Int} {l : List ByteArray} (h : SN w W M O G Y A n cap s k l) (hb : Below W.heap.size W W') : SN w W' M O G Y A n cap s k l :=
  ⟨h.1.next hb, h.2.1.nextT hb, h.2.2.1.next hb, h.2.2.2.1.nextT hb, h.2.2.2.2.1.kept hb (Nat.le_refl _), h.2.2.2.2.2.trans (hb.mono h.2.2.2.2.2.size)⟩
theorem SN.new (w : World) (M O G Y : ByteArray) (A : Option Addr) (n cap : Nat) (s : ByteArray) (k : Int) (l : List ByteArray) (hs : SlN w A n cap l) :
    SN w ((((w.alloc (.cells #[.string M, .string O, .string G, .string Y] 46)).alloc (.cells #[.slice A n cap, .string s, .int .i64 k] 31)).alloc (.cells #[.string ⟨#[]⟩, .string ⟨#[]⟩] 52)).alloc (.cells #[.slice none 0 0, .string ⟨#[]⟩, .int .i64 0] 31)) M O G Y A n cap s k l := by
  obtain ⟨w1, h1⟩ : ∃ W, w.alloc (.cells #[.string M, .string O, .string G, .string Y] 46) = W := ⟨_, rfl⟩
  have b1 : Below w.heap.size w w1 := h1 ▸ (Below.refl _ _).alloc (Nat.le_refl _) _
  have x1 : Bx4 w1 w.heap.size (.string M) (.string O) (.string G) (.string Y) 46 := h1 ▸ Bx4.new _ _ _ _ _ _
  have s1 : w1.heap.size = w.heap.size + 1 := by rw [← h1]; simp
  rw [h1]
  obtain ⟨w2, h2⟩ : ∃ W, w1.alloc (.cells #[.slice A n cap, .string s, .int .i64 k] 31) = W := ⟨_, rfl⟩
  have b2 : Below w1.heap.size w1 w2 := h2 ▸ (Below.refl _ _).alloc (Nat.le_refl _) _
  have x2 : TB w2 w1.heap.size A n cap s k := h2 ▸ TB.new _ _ _ _ _ _
  have s2 : w2.heap.size = w.heap.size + 1 + 1 := by rw [← h2]; simp [s1]
  rw [h2]
  obtain ⟨w3, h3⟩ : ∃ W, w2.alloc (.cells #[.string ⟨#[]⟩, .string ⟨#[]⟩] 52) = W := ⟨_, rfl⟩
  have b3 : Below w2.heap.size w2 w3 := h3 ▸ (Below.refl _ _).alloc (Nat.le_refl _) _
  have x3 : Bx2 w3 w2.heap.size (.string ⟨#[]⟩) (.string ⟨#[]⟩) 52 := h3 ▸ Bx2.new _ _ _ _
  have s3 : w3.heap.size = w.heap.size + 1 + 1 + 1 := by rw [← h3]; simp [s2]
  rw [h3]
  obtain ⟨w4, h4⟩ : ∃ W, w3.alloc (.cells #[.slice none 0 0, .string ⟨#[]⟩, .int .i64 0] 31) = W := ⟨_, rfl⟩
  have b4 : Below w3.heap.size w3 w4 := h4 ▸ (Below.refl _ _).alloc (Nat.le_refl _) _
  have x4 : TB w4 w3.heap.size none 0 0 ⟨#[]⟩ 0 := h4 ▸ TB.new _ _ _ _ _ _
  rw [h4]
  rw [s1] at x2
  rw [s2] at x3
  rw [s3] at x4
  have bb := ((b1.trans (b2.mono b1.size)).trans (b3.mono (by rw [s2]; omega))).trans (b4.mono (by rw [s3]; omega))
  exact ⟨((x1.next b2).next b3).next b4, (x2.nextT b3).nextT b4, x3.next b4, x4, hs.kept bb (Nat.le_refl _), bb⟩
theorem SN.stored {w W : World} {M O G Y : ByteArray} {A : Option Addr} {n cap : Nat} {s : ByteArray} {k : Int} {l : List ByteArray} (h : SN w W M O G Y A n cap s k l) (x y : Value) (A' : Option Addr) (n' c' : Nat) (s' : ByteArray) (a' : Int) :
    Bx2 (((((W.setCell ⟨w.heap.size + 1 + 1, 0, none⟩ x).setCell ⟨w.heap.size + 1 + 1, 1, none⟩ y).setCell ⟨w.heap.size + 1 + 1 + 1, 0, none⟩ (.slice A' n' c')).setCell ⟨w.heap.size + 1 + 1 + 1, 1, none⟩ (.string s')).setCell ⟨w.heap.size + 1 + 1 + 1, 2, none⟩ (.int .i64 a')) (w.heap.size + 1 + 1) x y 52 ∧
    TB (((((W.setCell ⟨w.heap.size + 1 + 1, 0, none⟩ x).setCell ⟨w.heap.size + 1 + 1, 1, none⟩ y).setCell ⟨w.heap.size + 1 + 1 + 1, 0, none⟩ (.slice A' n' c')).setCell ⟨w.heap.size + 1 + 1 + 1, 1, none⟩ (.string s')).setCell ⟨w.heap.size + 1 + 1 + 1, 2, none⟩ (.int .i64 a')) (w.heap.size + 1 + 1 + 1) A' n' c' s' a' ∧
    Below w.heap.size w (((((W.setCell ⟨w.heap.size + 1 + 1, 0, none⟩ x).setCell ⟨w.heap.size + 1 + 1, 1, none⟩ y).setCell ⟨w.heap.size + 1 + 1 + 1, 0, none⟩ (.slice A' n' c')).setCell ⟨w.heap.size + 1 + 1 + 1, 1, none⟩ (.string s')).setCell ⟨w.heap.size + 1 + 1 + 1, 2, none⟩ (.int .i64 a')) :=
  ⟨bx2_off3 (h.2.2.1.set2) (by omega), ((h.2.2.2.1.off (by omega) _).off (by omega) _).set3, below_set3 (below_set2 h.2.2.2.2.2 (by omega) _ _) (by omega) _ _ _⟩
theorem SN.key {w W : World} {M O G Y : ByteArray} {A : Option Addr} {n cap : Nat} {s : ByteArray} {k : Int} {l : List ByteArray} (h : SN w W M O G Y A n cap s k l) : W.cell? ⟨w.heap.size, 0, none⟩ = some (.string M) ∧ W.cell? ⟨w.heap.size, 1, none⟩ = some (.string O) ∧ W.cell? ⟨w.heap.size, 2, none⟩ = some (.string G) ∧ W.cell? ⟨w.heap.size, 3, none⟩ = some (.string Y) := h.1.cells
set_option maxRecDepth 100000 in
set_option maxHeartbeats 8000000 in
theorem sc_Sign (M O G Y X msg : ByteArray) (l : List ByteArray) (s : ByteArray) (k : Int) (A : Option Addr) (n cap : Nat) (hM : M.size ≤ 8) (hO : O.size ≤ 100) (hG : G.size ≤ 1000) (hY : Y.size ≤ 1000) (hX : X.size ≤ 1000) (hm : msg.size ≤ 1000000) (hn : n ≤ 1000) (hp : ∀ x ∈ l, x.size ≤ 9223372036854775807) (hs64 : s.size ≤ 1000000) (w : World) (hs : SlN w A n cap l) (ht : T10 w) :
    Calls Tryz.prog 35 #[kV M O G Y, .string X, .string msg, tpV A n cap s k] w (RetS (sgN M O G Y X msg l s k) (tpN (sgN M O G Y X msg l s k).2.2 l s k) w) := by
  have hx0 := SN.new w M O G Y A n cap s k l hs
  obtain ⟨W0, hW0⟩ : ∃ W, (((w.alloc (.cells #[.string M, .string O, .string G, .string Y] 46)).alloc (.cells #[.slice A n cap, .string s, .int .i64 k] 31)).alloc (.cells #[.string ⟨#[]⟩, .string ⟨#[]⟩] 52)).alloc (.cells #[.slice none 0 0, .string ⟨#[]⟩, .int .i64 0] 31) = W := ⟨_, rfl⟩
  rw [hW0] at hx0
  have HX0 := Lib.hid hx0
  have HCK := Lib.hid (sc_Check M O G Y hM hO hG hY)
  have HFM := Lib.hid (fun W : World => sc_formed [X] (some ⟨W.heap.size, 0, none⟩) 1 1 (by omega) (by
    intro z hz
    simp at hz
    subst hz; omega) (W.alloc (.cells #[.string X] 22)) (sln_alloc W [X] 22 (by simp)))
  rw [show ([X].all nvalid) = nvalid X from by simp] at HFM
  have HGT := Lib.hid (fun W hs => sc_goodTape l s k A n cap W hs hn hp)
  obtain ⟨g0, g1, g2, g3⟩ := HX0.out.key
  obtain ⟨c0, c1, c2⟩ := HX0.out.2.1.c
  unfold tpV kV at *
  clear hx0 hs
  by_cases hk : scK M O G Y = 0
  · rw [hk] at HCK
    cases vX : nvalid X with
    | false =>
      rw [vX] at HFM
      rw [show sgN M O G Y X msg l s k = (0, 0, 3) from by unfold sgN; rw [if_pos hk, vX, Bool.false_and, if_neg (by decide)]]
      clear hk vX hp ht
      go_enter Tryz.func35, Tryz.ntmps35
      go_wp2_with fail
      try rw [hW0]
      clear hW0
      refine (HCK.out _).mono ?_
      rintro ev w1 ⟨rfl, hb⟩
      have HX1 := Lib.hid (HX0.out.next hb)
      clear hb g0 g1 g2 g3 c0 c1 c2
      obtain ⟨g0, g1, g2, g3⟩ := HX1.out.key
      obtain ⟨c0, c1, c2⟩ := HX1.out.2.1.c
      have HX2 := Lib.hid (HX1.out.next ((Below.refl w1.heap.size w1).alloc (Nat.le_refl _) (.cells #[.string X] 22)))
      go_wp2_with fail
      refine (HFM.out _).mono ?_
      rintro ev w2 ⟨rfl, rfl⟩
      clear g0 g1 g2 g3 c0 c1 c2
      obtain ⟨g0, g1, g2, g3⟩ := HX2.out.key
      obtain ⟨c0, c1, c2⟩ := HX2.out.2.1.c
      obtain ⟨k0, k1⟩ := (show _ ∧ _ from ⟨HX2.out.2.2.1.c0, HX2.out.2.2.1.c1⟩)
      have kf0 := HX2.out.2.2.1.f0
      have kf1 := HX2.out.2.2.1.f1
      obtain ⟨r0, r1, r2⟩ := HX2.out.2.2.2.1.c
      have rf := HX2.out.2.2.2.1.f
      have rf0 := rf 0
      have rf1 := rf 1
      have rf2 := rf 2
      obtain ⟨hq2, hq3, hqb⟩ := HX2.out.stored (.string ⟨#[]⟩) (.string ⟨#[]⟩) none 0 0 ⟨#[]⟩ 0
      have q0 := hq2.c0
      have q1 := hq2.c1
      obtain ⟨p0, p1, p2⟩ := hq3.c
      have HQB := Lib.hid hqb
      clear rf hq2 hq3 hqb
      go_wp2
      refine bodyPost_ret (v := .tuple #[.agg #[.string ⟨#[]⟩, .string ⟨#[]⟩], .agg #[.slice none 0 0, .string ⟨#[]⟩, .int .i64 0], .int .i64 3]) (by simp [results, Tryz.results35, go_sem, q0, q1, p0, p1, p2]) rfl ?_
      exact ⟨none, 0, rfl, SlN.nil _ 0 (by omega) none, (fun b o h => by cases h), HQB.out⟩
    | true =>
      rw [vX] at HFM
      cases hg : tpG l k with
      | false =>
        rw [hg] at HGT
        rw [show sgN M O G Y X msg l s k = (0, 0, 3) from by unfold sgN; rw [if_pos hk, vX, hg, Bool.and_false, if_neg (by decide)]]
        clear hk vX hp ht hg
        go_enter Tryz.func35, Tryz.ntmps35
        go_wp2_with fail
        try rw [hW0]
        clear hW0
        refine (HCK.out _).mono ?_
        rintro ev w1 ⟨rfl, hb⟩
        have HX1 := Lib.hid (HX0.out.next hb)
        clear hb g0 g1 g2 g3 c0 c1 c2
        obtain ⟨g0, g1, g2, g3⟩ := HX1.out.key
        obtain ⟨c0, c1, c2⟩ := HX1.out.2.1.c
        have HX2 := Lib.hid (HX1.out.next ((Below.refl w1.heap.size w1).alloc (Nat.le_refl _) (.cells #[.string X] 22)))
        go_wp2_with fail
        refine (HFM.out _).mono ?_
        rintro ev w2 ⟨rfl, rfl⟩
        clear g0 g1 g2 g3 c0 c1 c2
        obtain ⟨g0, g1, g2, g3⟩ := HX2.out.key
        obtain ⟨c0, c1, c2⟩ := HX2.out.2.1.c
        have HGU := Lib.hid (HGT.out _ HX2.out.2.2.2.2.1)
        go_wp2_with fail
        refine HGU.out.mono ?_
        rintro ev w3 ⟨rfl, hb⟩
        have HX3 := Lib.hid (HX2.out.next hb)
        clear hb g0 g1 g2 g3 c0 c1 c2
        obtain ⟨g0, g1, g2, g3⟩ := HX3.out.key
        obtain ⟨c0, c1, c2⟩ := HX3.out.2.1.c
        obtain ⟨k0, k1⟩ := (show _ ∧ _ from ⟨HX3.out.2.2.1.c0, HX3.out.2.2.1.c1⟩)
        have kf0 := HX3.out.2.2.1.f0
        have kf1 := HX3.out.2.2.1.f1
        obtain ⟨r0, r1, r2⟩ := HX3.out.2.2.2.1.c
        have rf := HX3.out.2.2.2.1.f
        have rf0 := rf 0
        have rf1 := rf 1
        have rf2 := rf 2
        obtain ⟨hq2, hq3, hqb⟩ := HX3.out.stored (.string ⟨#[]⟩) (.string ⟨#[]⟩) none 0 0 ⟨#[]⟩ 0
        have q0 := hq2.c0
        have q1 := hq2.c1
        obtain ⟨p0, p1, p2⟩ := hq3.c
        have HQB := Lib.hid hqb
        clear rf hq2 hq3 hqb
        go_wp2
        refine bodyPost_ret (v := .tuple #[.agg #[.string ⟨#[]⟩, .string ⟨#[]⟩], .agg #[.slice none 0 0, .string ⟨#[]⟩, .int .i64 0], .int .i64 3]) (by simp [results, Tryz.results35, go_sem, q0, q1, p0, p1, p2]) rfl ?_
        exact ⟨none, 0, rfl, SlN.nil _ 0 (by omega) none, (fun b o h => by cases h), HQB.out⟩
      | true =>
        rw [hg] at HGT
        have HIS := Lib.hid (sc_isSecret M O G Y X hM hk vX)
        unfold kV at HIS
        obtain ⟨hv4, hck, hz, hgg, hy⟩ := scK_ok hk
        obtain ⟨v1, v2, v3, v4⟩ := all_four hv4
        have h8 := chk_small hv4 hM hck
        by_cases hi : 0 < num X ∧ num X < num O ∧ num G ^ num X % num M = num Y
        · rw [decide_eq_true hi] at HIS
          have HDD := Lib.hid (fun W (hb : Below w.heap.size w W) hs => co_Below l s k O A n cap hn hp hs64 (by omega) W hs (ht.kept hb (Nat.le_refl _)))
          obtain ⟨rr, hr⟩ : ∃ r, coN l s k O = r := ⟨_, rfl⟩
          have hlt : rr.2 = 0 → rr.1 < num O := fun h => by rw [← hr] at h ⊢; exact coN_lt h
          have HRV := Lib.hid (show sgN M O G Y X msg l s k = (if rr.2 = 0 then (chS M O G Y (num G ^ rr.1 % num M) msg, (chS M O G Y (num G ^ rr.1 % num M) msg * num X % num O + rr.1) % num O, 0) else (0, 0, rr.2)) from by
            unfold sgN; rw [if_pos hk, vX, hg, if_pos (by rfl), decide_eq_true hi, if_pos rfl, hr])
          rw [hr] at HDD
          obtain ⟨nn, e⟩ := rr
          simp only [] at HRV hlt HDD
          obtain ⟨cz, hcz⟩ : ∃ z, nS nn = z := ⟨_, rfl⟩
          have HCZ := Lib.hid hcz
          obtain ⟨t, htp⟩ : ∃ t, tpN e l s k = t := ⟨_, rfl⟩
          obtain ⟨tl, ts, tk⟩ := t
          rw [htp] at HDD
          obtain ⟨m, hmm⟩ : ∃ m, tl.length = m := ⟨_, rfl⟩
          have HMM := Lib.hid hmm
          unfold tpV at HDD
          by_cases he : e = 0
          · subst he
            have lc := hlt rfl
            have lO := num_small h8
            have hm0 : 0 < num M := by
              obtain ⟨i, hu⟩ := has_un (chkK_parts hck).2.2 (genK_parts hgg).1
              have := hu.1
              omega
            have h9 := num_small hM
            have lc1 : nn < 256 ^ 128 := lt128_of_lt8 (by omega)
            have HEX := Lib.hid (pw_Exp M O G false (nS nn) hM h8 (by omega) (by have := nS_size_le.2 lc1; omega))
            rw [ex_nat2 hck v3 (genK_parts hgg).1 lc1] at HEX
            have lr : num G ^ nn % num M < 256 ^ 128 := lt128_of_lt8 (by have := Nat.mod_lt (num G ^ nn) hm0; omega)
            have HCH := Lib.hid (sc_challenge M O G Y (nS (num G ^ nn % num M)) msg hM h8 (by omega) (by omega) (by have := nS_size_le.2 lr; omega) hm v2 (by omega))
            rw [show chL (snL M.data.toList O.data.toList G.data.toList Y.data.toList (nS (num G ^ nn % num M)).data.toList msg.data.toList) O.size (num O) = chS M O G Y (num G ^ nn % num M) msg from rfl] at HCH
            have lch : chS M O G Y (num G ^ nn % num M) msg < num O := Nat.mod_lt _ (by omega)
            simp only [if_true] at HRV
            obtain ⟨ch, hch⟩ : ∃ x, chS M O G Y (num G ^ nn % num M) msg = x := ⟨_, rfl⟩
            rw [hch] at HCH HRV lch
            have HML := Lib.hid (mod_Mul ch (num X) (num O) (by omega) (by omega) lO (by omega))
            rw [← nS_num vX, ← nS_num v2] at HML
            have HAD := Lib.hid (mod_Add (ch * num X % num O) nn (num O) (lt128_of_lt8 (by have := Nat.mod_lt (ch * num X) (show 0 < num O from by omega); omega)) lc1 (lt128_of_lt8 lO) (by omega))
            rw [← nS_num v2] at HAD
            obtain ⟨z1, hz1⟩ : ∃ z, nS (num G ^ nn % num M) = z := ⟨_, rfl⟩
            obtain ⟨z2, hz2⟩ : ∃ z, nS ch = z := ⟨_, rfl⟩
            obtain ⟨z3, hz3⟩ : ∃ z, nS (ch * num X % num O) = z := ⟨_, rfl⟩
            obtain ⟨z4, hz4⟩ : ∃ z, nS ((ch * num X % num O + nn) % num O) = z := ⟨_, rfl⟩
            rw [hz1] at HEX HCH
            rw [hz2] at HCH HML
            rw [hz3] at HML HAD
            rw [hz4, hcz] at HAD
            rw [hcz] at HEX
            have HZ2 := Lib.hid hz2
            have HZ4 := Lib.hid hz4
            have HTT := Lib.hid htp
            rw [HRV.out]
            unfold gV zV kV at *
            clear hk vX hp ht hg hv4 hck hz hgg hy v1 v2 v3 v4 h8 hi hr hlt hcz htp hmm lc lO hm0 h9 lc1 lr lch hch hz1 hz2 hz3 hz4 hM hO hG hY hX hm hn hs64
            go_enter Tryz.func35, Tryz.ntmps35
            go_wp2_with fail
            try rw [hW0]
            clear hW0
            refine (HCK.out _).mono ?_
            rintro ev w1 ⟨rfl, hb⟩
            have HX1 := Lib.hid (HX0.out.next hb)
            clear hb g0 g1 g2 g3 c0 c1 c2
            obtain ⟨g0, g1, g2, g3⟩ := HX1.out.key
            obtain ⟨c0, c1, c2⟩ := HX1.out.2.1.c
            have HX2 := Lib.hid (HX1.out.next ((Below.refl w1.heap.size w1).alloc (Nat.le_refl _) (.cells #[.string X] 22)))
            go_wp2_with fail
            refine (HFM.out _).mono ?_
            rintro ev w2 ⟨rfl, rfl⟩
            clear g0 g1 g2 g3 c0 c1 c2
            obtain ⟨g0, g1, g2, g3⟩ := HX2.out.key
            obtain ⟨c0, c1, c2⟩ := HX2.out.2.1.c
            have HGU := Lib.hid (HGT.out _ HX2.out.2.2.2.2.1)
            go_wp2_with fail
            refine HGU.out.mono ?_
            rintro ev w3 ⟨rfl, hb⟩
            have HX3 := Lib.hid (HX2.out.next hb)
            clear hb g0 g1 g2 g3 c0 c1 c2
            obtain ⟨g0, g1, g2, g3⟩ := HX3.out.key
            obtain ⟨c0, c1, c2⟩ := HX3.out.2.1.c
            go_wp2_with fail
            refine (HIS.out _).mono ?_
            rintro ev w4 ⟨rfl, hb⟩
            have HX4 := Lib.hid (HX3.out.next hb)
            clear hb g0 g1 g2 g3 c0 c1 c2
            obtain ⟨g0, g1, g2, g3⟩ := HX4.out.key
            obtain ⟨c0, c1, c2⟩ := HX4.out.2.1.c
            have HDW := Lib.hid (HDD.out w4 HX4.out.2.2.2.2.2 HX4.out.2.2.2.2.1)
            go_wp2_with fail
            refine HDW.out.mono ?_
            rintro ev w6 ⟨B, cc, rfl, hsl, hfr, hb⟩
            simp only [] at hsl ⊢
            rw [HMM.out] at hsl ⊢
            have HSL := Lib.hid hsl
            have HFR := Lib.hid (show ∀ b o, B = some ⟨b, o, none⟩ → w.heap.size + 1 + 1 + 1 < b from fun b o h => Nat.lt_of_lt_of_le HX4.out.2.2.2.1.lt (hfr b o h))
            clear hsl hfr
            have HX6 := Lib.hid (HX4.out.next hb)
            clear hb g0 g1 g2 g3 c0 c1 c2
            obtain ⟨g0, g1, g2, g3⟩ := HX6.out.key
            obtain ⟨c0, c1, c2⟩ := HX6.out.2.1.c
            rw [HCZ.out]
            have HLT6 := Lib.hid (show w.heap.size + 1 + 1 + 1 < w6.heap.size from HX6.out.2.2.2.1.lt)
            clear g0 g1 g2 g3 c0 c1 c2
            go_upto_region 9 with (fail)
            obtain ⟨g0, g1, g2, g3⟩ := HX6.out.key
            obtain ⟨c0, c1, c2⟩ := HX6.out.2.1.c
            have hb : Below w6.heap.size w6 (w6.alloc (.cells #[.slice B m cc, .string ts, .int .i64 tk] 31)) := (Below.refl _ _).alloc (Nat.le_refl _) _
            have hp7 := TB.new w6 B m cc ts tk
            obtain ⟨W7, hW7⟩ : ∃ W, w6.alloc (.cells #[.slice B m cc, .string ts, .int .i64 tk] 31) = W := ⟨_, rfl⟩
            obtain ⟨P7, hP7⟩ : ∃ P, w6.heap.size = P := ⟨_, rfl⟩
            rw [hW7] at hb hp7 ⊢
            rw [hP7] at hp7 HLT6 ⊢
            have HP7 := Lib.hid hp7
            have HSL7 := Lib.hid (HSL.out.kept hb (Nat.le_refl _))
            clear hp7 hW7 hP7
            have HX7 := Lib.hid (HX6.out.next hb)
            clear hb g0 g1 g2 g3 c0 c1 c2
            obtain ⟨g0, g1, g2, g3⟩ := HX7.out.key
            obtain ⟨c0, c1, c2⟩ := HX7.out.2.1.c
            go_wp2_with fail
            refine (HEX.out _).mono ?_
            rintro ev w8 ⟨rfl, hb⟩
            have HP8 := Lib.hid (HP7.out.nextT hb)
            have HSL8 := Lib.hid (HSL7.out.kept hb (Nat.le_refl _))
            have HX8 := Lib.hid (HX7.out.next hb)
            clear hb g0 g1 g2 g3 c0 c1 c2
            obtain ⟨g0, g1, g2, g3⟩ := HX8.out.key
            obtain ⟨c0, c1, c2⟩ := HX8.out.2.1.c
            go_wp2_with fail
            refine (HCH.out _).mono ?_
            rintro ev w9 ⟨rfl, hb⟩
            have HP9 := Lib.hid (HP8.out.nextT hb)
            have HSL9 := Lib.hid (HSL8.out.kept hb (Nat.le_refl _))
            have HX9 := Lib.hid (HX8.out.next hb)
            clear hb g0 g1 g2 g3 c0 c1 c2
            obtain ⟨g0, g1, g2, g3⟩ := HX9.out.key
            obtain ⟨c0, c1, c2⟩ := HX9.out.2.1.c
            go_wp2_with fail
            refine (HML.out _).mono ?_
            rintro ev w10 ⟨rfl, hb⟩
            have HP10 := Lib.hid (HP9.out.nextT hb)
            have HSL10 := Lib.hid (HSL9.out.kept hb (Nat.le_refl _))
            have HX10 := Lib.hid (HX9.out.next hb)
            clear hb g0 g1 g2 g3 c0 c1 c2
            obtain ⟨g0, g1, g2, g3⟩ := HX10.out.key
            obtain ⟨c0, c1, c2⟩ := HX10.out.2.1.c
            go_wp2_with fail
            refine (HAD.out _).mono ?_
            rintro ev w11 ⟨rfl, hb⟩
            have HP11 := Lib.hid (HP10.out.nextT hb)
            have HSL11 := Lib.hid (HSL10.out.kept hb (Nat.le_refl _))
            have HX11 := Lib.hid (HX10.out.next hb)
            clear hb g0 g1 g2 g3 c0 c1 c2
            obtain ⟨g0, g1, g2, g3⟩ := HX11.out.key
            obtain ⟨c0, c1, c2⟩ := HX11.out.2.1.c
            go_wp2
            obtain ⟨wd, hwd⟩ : ∃ wd, w11.drew = wd := ⟨_, rfl⟩
            have hbd : Below w11.heap.size w11 wd := by rw [← hwd]; exact (Below.refl _ _).drew
            have HXD := Lib.hid (HX11.out.next hbd)
            have HS0 := Lib.hid (show Below w.heap.size w wd ∧ TB wd P7 B m cc ts tk from ⟨(HX11.out.next hbd).2.2.2.2.2, HP11.out.nextT hbd⟩)
            have HSLD := Lib.hid (HSL11.out.kept hbd (Nat.le_refl _))
            clear hbd g0 g1 g2 g3 c0 c1 c2
            obtain ⟨k0, k1⟩ := (show _ ∧ _ from ⟨HXD.out.2.2.1.c0, HXD.out.2.2.1.c1⟩)
            have kf0 := HXD.out.2.2.1.f0
            have kf1 := HXD.out.2.2.1.f1
            obtain ⟨r0, r1, r2⟩ := HXD.out.2.2.2.1.c
            have rf := HXD.out.2.2.2.1.f
            have rf0 := rf 0
            have rf1 := rf 1
            have rf2 := rf 2
            clear rf
            refine wp_region_K 7 (fun W' => Below w.heap.size w W' ∧ TB W' P7 B m cc ts tk) (by kernel_rfl) ?_
            intro hD
            rw [hwd]
            refine rP 0 90 6 rfl hD HS0.out ?_; clear hD; intro hD; simp only [Act.put, sqA, sqB, sqC]
            refine rP 1 91 5 rfl hD HS0.out ?_; clear hD; intro hD; simp only [Act.put, sqA, sqB, sqC]
            refine rP 2 92 4 rfl hD HS0.out ?_; clear hD; intro hD; simp only [Act.put, sqA, sqB, sqC]
            refine rT 3 93 3 rfl hD HS0.out (by intro w' hS'; have e0 := hS'.2.c.1; have e1 := hS'.2.c.2.1; have e2 := hS'.2.c.2.2; go_simp; with_reducible rfl) ?_; clear hD; intro hD; simp only [Act.put, sqA, sqB, sqC]
            refine rO 4 2 rfl hD ?_; clear hD; intro K4 hK4
            go_wp2
            refine hK4 _ _ (by exact ⟨below_set2 (HS0.out).1 (by omega) _ _, ((HS0.out).2.off (by have := HLT6.out; omega) _).off (by have := HLT6.out; omega) _⟩) ?_; clear hK4; intro hS_15_4 hD
            refine rO 5 1 rfl hD ?_; clear hD; intro K5 hK5
            go_wp2
            refine hK5 _ _ (by exact ⟨below_set3 (hS_15_4).1 (by omega) _ _ _, (((hS_15_4).2.off (by have := HLT6.out; omega) _).off (by have := HLT6.out; omega) _).off (by have := HLT6.out; omega) _⟩) ?_; clear hK5; intro hS_15_5 hD
            refine rO 6 0 rfl hD ?_; clear hD; intro K6 hK6
            go_wp2
            refine hK6 _ _ (by exact hS_15_5) ?_; clear hK6; intro hS_15_6 hD
            refine wpAnyK_done (by kernel_rfl) ?_ 0
            clear hD k0 k1 kf0 kf1 r0 r1 r2 rf0 rf1 rf2
            obtain ⟨hq2, hq3, hqb⟩ := HXD.out.stored (.string z2) (.string z4) B m cc ts tk
            have q0 := hq2.c0
            have q1 := hq2.c1
            obtain ⟨p0, p1, p2⟩ := hq3.c
            have HQB := Lib.hid hqb
            clear hq2 hq3 hqb
            go_wp2
            refine bodyPost_ret (v := .tuple #[.agg #[.string z2, .string z4], .agg #[.slice B m cc, .string ts, .int .i64 tk], .int .i64 0]) (by simp [results, Tryz.results35, go_sem, q0, q1, p0, p1, p2]) rfl ?_
            rw [HTT.out]
            refine ⟨B, cc, ?_, ?_, (fun b o h => by have := HFR.out b o h; omega), HQB.out⟩
            · show _ = Ending.returned (.tuple #[.agg #[.string (nS ch), .string (nS ((ch * num X % num O + nn) % num O))], .agg #[.slice B tl.length cc, .string ts, .int .i64 tk], .int .i64 0])
              rw [HMM.out, HZ2.out, HZ4.out]
            · show SlN _ B tl.length cc tl
              rw [HMM.out]
              have h1 : ∀ b o, B = some ⟨b, o, none⟩ → w.heap.size + 1 + 1 < b := fun b o h => by have := HFR.out b o h; omega
              exact ((((HSLD.out.setB h1).setB h1).setB HFR.out).setB HFR.out).setB HFR.out
          · rw [if_neg he] at HRV
            rw [HRV.out, show tpN (0, 0, e).2.2 l s k = ([], ⟨#[]⟩, 0) from tpN_err he l s k]
            have HNE := Lib.hid he
            clear hk vX hp ht hg hv4 hck hz hgg hy v1 v2 v3 v4 h8 hi hr hlt hcz htp hmm hM hO hG hY hX hm hn hs64 he
            go_enter Tryz.func35, Tryz.ntmps35
            go_wp2_with fail
            try rw [hW0]
            clear hW0
            refine (HCK.out _).mono ?_
            rintro ev w1 ⟨rfl, hb⟩
            have HX1 := Lib.hid (HX0.out.next hb)
            clear hb g0 g1 g2 g3 c0 c1 c2
            obtain ⟨g0, g1, g2, g3⟩ := HX1.out.key
            obtain ⟨c0, c1, c2⟩ := HX1.out.2.1.c
            have HX2 := Lib.hid (HX1.out.next ((Below.refl w1.heap.size w1).alloc (Nat.le_refl _) (.cells #[.string X] 22)))
            go_wp2_with fail
            refine (HFM.out _).mono ?_
            rintro ev w2 ⟨rfl, rfl⟩
            clear g0 g1 g2 g3 c0 c1 c2
            obtain ⟨g0, g1, g2, g3⟩ := HX2.out.key
            obtain ⟨c0, c1, c2⟩ := HX2.out.2.1.c
            have HGU := Lib.hid (HGT.out _ HX2.out.2.2.2.2.1)
            go_wp2_with fail
            refine HGU.out.mono ?_
            rintro ev w3 ⟨rfl, hb⟩
            have HX3 := Lib.hid (HX2.out.next hb)
            clear hb g0 g1 g2 g3 c0 c1 c2
            obtain ⟨g0, g1, g2, g3⟩ := HX3.out.key
            obtain ⟨c0, c1, c2⟩ := HX3.out.2.1.c
            go_wp2_with fail
            refine (HIS.out _).mono ?_
            rintro ev w4 ⟨rfl, hb⟩
            have HX4 := Lib.hid (HX3.out.next hb)
            clear hb g0 g1 g2 g3 c0 c1 c2
            obtain ⟨g0, g1, g2, g3⟩ := HX4.out.key
            obtain ⟨c0, c1, c2⟩ := HX4.out.2.1.c
            have HDW := Lib.hid (HDD.out w4 HX4.out.2.2.2.2.2 HX4.out.2.2.2.2.1)
            go_wp2_with fail
            refine HDW.out.mono ?_
            rintro ev w6 ⟨B, cc, rfl, hsl, hfr, hb⟩
            simp only [] at hsl ⊢
            rw [HMM.out] at hsl ⊢
            have HSL := Lib.hid hsl
            have HFR := Lib.hid (show ∀ b o, B = some ⟨b, o, none⟩ → w.heap.size + 1 + 1 + 1 < b from fun b o h => Nat.lt_of_lt_of_le HX4.out.2.2.2.1.lt (hfr b o h))
            clear hsl hfr
            have HX6 := Lib.hid (HX4.out.next hb)
            clear hb g0 g1 g2 g3 c0 c1 c2
            obtain ⟨g0, g1, g2, g3⟩ := HX6.out.key
            obtain ⟨c0, c1, c2⟩ := HX6.out.2.1.c
            rw [HCZ.out]
            have HLT6 := Lib.hid (show w.heap.size + 1 + 1 + 1 < w6.heap.size from HX6.out.2.2.2.1.lt)
            clear g0 g1 g2 g3 c0 c1 c2
            go_upto_region 9 with (fail)
            obtain ⟨g0, g1, g2, g3⟩ := HX6.out.key
            obtain ⟨c0, c1, c2⟩ := HX6.out.2.1.c
            have hb : Below w6.heap.size w6 (w6.alloc (.cells #[.slice B m cc, .string ts, .int .i64 tk] 31)) := (Below.refl _ _).alloc (Nat.le_refl _) _
            have hp7 := TB.new w6 B m cc ts tk
            obtain ⟨W7, hW7⟩ : ∃ W, w6.alloc (.cells #[.slice B m cc, .string ts, .int .i64 tk] 31) = W := ⟨_, rfl⟩
            obtain ⟨P7, hP7⟩ : ∃ P, w6.heap.size = P := ⟨_, rfl⟩
            rw [hW7] at hb hp7 ⊢
            rw [hP7] at hp7 HLT6 ⊢
            have HP7 := Lib.hid hp7
            have HSL7 := Lib.hid (HSL.out.kept hb (Nat.le_refl _))
            clear hp7 hW7 hP7
            have HX7 := Lib.hid (HX6.out.next hb)
            clear hb g0 g1 g2 g3 c0 c1 c2
            obtain ⟨g0, g1, g2, g3⟩ := HX7.out.key
            obtain ⟨c0, c1, c2⟩ := HX7.out.2.1.c
            have he := HNE.out
            go_upto_region 10 with (fail)
            clear he
            obtain ⟨k0, k1⟩ := (show _ ∧ _ from ⟨HX7.out.2.2.1.c0, HX7.out.2.2.1.c1⟩)
            have kf0 := HX7.out.2.2.1.f0
            have kf1 := HX7.out.2.2.1.f1
            obtain ⟨r0, r1, r2⟩ := HX7.out.2.2.2.1.c
            have rf := HX7.out.2.2.2.1.f
            have rf0 := rf 0
            have rf1 := rf 1
            have rf2 := rf 2
            obtain ⟨hq2, hq3, hqb⟩ := HX7.out.stored (.string ⟨#[]⟩) (.string ⟨#[]⟩) none 0 0 ⟨#[]⟩ 0
            have q0 := hq2.c0
            have q1 := hq2.c1
            obtain ⟨p0, p1, p2⟩ := hq3.c
            have HQB := Lib.hid hqb
            clear rf hq2 hq3 hqb
            go_wp2
            refine bodyPost_ret (v := .tuple #[.agg #[.string ⟨#[]⟩, .string ⟨#[]⟩], .agg #[.slice none 0 0, .string ⟨#[]⟩, .int .i64 0], .int .i64 e]) (by simp [results, Tryz.results35, go_sem, q0, q1, p0, p1, p2]) rfl ?_
            exact ⟨none, 0, rfl, SlN.nil _ 0 (by omega) none, (fun b o h => by cases h), HQB.out⟩
        · rw [decide_eq_false hi] at HIS
          rw [show sgN M O G Y X msg l s k = (0, 0, 1) from by unfold sgN; rw [if_pos hk, vX, hg, if_pos (by rfl), decide_eq_false hi, if_neg (by decide)]]
          clear hk vX hp ht hg hv4 hck hz hgg hy v1 v2 v3 v4 h8 hi
          go_enter Tryz.func35, Tryz.ntmps35
          go_wp2_with fail
          try rw [hW0]
          clear hW0
          refine (HCK.out _).mono ?_
          rintro ev w1 ⟨rfl, hb⟩
          have HX1 := Lib.hid (HX0.out.next hb)
          clear hb g0 g1 g2 g3 c0 c1 c2
          obtain ⟨g0, g1, g2, g3⟩ := HX1.out.key
          obtain ⟨c0, c1, c2⟩ := HX1.out.2.1.c
          have HX2 := Lib.hid (HX1.out.next ((Below.refl w1.heap.size w1).alloc (Nat.le_refl _) (.cells #[.string X] 22)))
          go_wp2_with fail
          refine (HFM.out _).mono ?_
          rintro ev w2 ⟨rfl, rfl⟩
          clear g0 g1 g2 g3 c0 c1 c2
          obtain ⟨g0, g1, g2, g3⟩ := HX2.out.key
          obtain ⟨c0, c1, c2⟩ := HX2.out.2.1.c
          have HGU := Lib.hid (HGT.out _ HX2.out.2.2.2.2.1)
          go_wp2_with fail
          refine HGU.out.mono ?_
          rintro ev w3 ⟨rfl, hb⟩
          have HX3 := Lib.hid (HX2.out.next hb)
          clear hb g0 g1 g2 g3 c0 c1 c2
          obtain ⟨g0, g1, g2, g3⟩ := HX3.out.key
          obtain ⟨c0, c1, c2⟩ := HX3.out.2.1.c
          go_wp2_with fail
          refine (HIS.out _).mono ?_
          rintro ev w4 ⟨rfl, hb⟩
          have HX4 := Lib.hid (HX3.out.next hb)
          clear hb g0 g1 g2 g3 c0 c1 c2
          obtain ⟨g0, g1, g2, g3⟩ := HX4.out.key
          obtain ⟨c0, c1, c2⟩ := HX4.out.2.1.c
          obtain ⟨k0, k1⟩ := (show _ ∧ _ from ⟨HX4.out.2.2.1.c0, HX4.out.2.2.1.c1⟩)
          have kf0 := HX4.out.2.2.1.f0
          have kf1 := HX4.out.2.2.1.f1
          obtain ⟨r0, r1, r2⟩ := HX4.out.2.2.2.1.c
          have rf := HX4.out.2.2.2.1.f
          have rf0 := rf 0
          have rf1 := rf 1
          have rf2 := rf 2
          obtain ⟨hq2, hq3, hqb⟩ := HX4.out.stored (.string ⟨#[]⟩) (.string ⟨#[]⟩) none 0 0 ⟨#[]⟩ 0
          have q0 := hq2.c0
          have q1 := hq2.c1
          obtain ⟨p0, p1, p2⟩ := hq3.c
          have HQB := Lib.hid hqb
          clear rf hq2 hq3 hqb
          go_wp2
          refine bodyPost_ret (v := .tuple #[.agg #[.string ⟨#[]⟩, .string ⟨#[]⟩], .agg #[.slice none 0 0, .string ⟨#[]⟩, .int .i64 0], .int .i64 1]) (by simp [results, Tryz.results35, go_sem, q0, q1, p0, p1, p2]) rfl ?_
          exact ⟨none, 0, rfl, SlN.nil _ 0 (by omega) none, (fun b o h => by cases h), HQB.out⟩
  · rw [show sgN M O G Y X msg l s k = (0, 0, scK M O G Y) from if_neg hk]
    obtain ⟨e, he⟩ : ∃ e, scK M O G Y = e := ⟨_, rfl⟩
    rw [he] at HCK hk ⊢
    rw [show tpN (0, 0, e).2.2 l s k = ([], ⟨#[]⟩, 0) from tpN_err hk l s k]
    clear he hp ht
    go_enter Tryz.func35, Tryz.ntmps35
    go_wp2_with fail
    try rw [hW0]
    clear hW0
    refine (HCK.out _).mono ?_
    rintro ev w1 ⟨rfl, hb⟩
    have HX1 := Lib.hid (HX0.out.next hb)
    clear hb g0 g1 g2 g3 c0 c1 c2
    obtain ⟨g0, g1, g2, g3⟩ := HX1.out.key
    obtain ⟨c0, c1, c2⟩ := HX1.out.2.1.c
    go_upto_region 3 with (fail)
    clear hk
    obtain ⟨k0, k1⟩ := (show _ ∧ _ from ⟨HX1.out.2.2.1.c0, HX1.out.2.2.1.c1⟩)
    have kf0 := HX1.out.2.2.1.f0
    have kf1 := HX1.out.2.2.1.f1
    obtain ⟨r0, r1, r2⟩ := HX1.out.2.2.2.1.c
    have rf := HX1.out.2.2.2.1.f
    have rf0 := rf 0
    have rf1 := rf 1
    have rf2 := rf 2
    obtain ⟨hq2, hq3, hqb⟩ := HX1.out.stored (.string ⟨#[]⟩) (.string ⟨#[]⟩) none 0 0 ⟨#[]⟩ 0
    have q0 := hq2.c0
    have q1 := hq2.c1
    obtain ⟨p0, p1, p2⟩ := hq3.c
    have HQB := Lib.hid hqb
    clear rf hq2 hq3 hqb
    go_wp2
    refine bodyPost_ret (v := .tuple #[.agg #[.string ⟨#[]⟩, .string ⟨#[]⟩], .agg #[.slice none 0 0, .string ⟨#[]⟩, .int .i64 0], .int .i64 e]) (by simp [results, Tryz.results35, go_sem, q0, q1, p0, p1, p2]) rfl ?_
    exact ⟨none, 0, rfl, SlN.nil _ 0 (by omega) none, (fun b o h => by cases h), HQB.out⟩
end Go.Proofs.YtndmjfkmnjejkaaGreatDoor

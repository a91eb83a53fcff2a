import Derived.Test.YtndmjfkmnjejkaaGreatDoorQPeG
import Derived.Test.YtndmjfkmnjejkaaGreatDoorQPeC
import Derived.Test.YtndmjfkmnjejkaaGreatDoorQNatA
import Derived.Great.Walk
set_option linter.unusedVariables false
set_option linter.unusedSimpArgs false
namespace Go.Proofs.YtndmjfkmnjejkaaGreatDoor
set_option maxRecDepth 100000
set_option maxHeartbeats 8000000
open Go.RowKit
def prR (M O : ByteArray) (l : List ByteArray) (zs : List (Bool × ByteArray)) : Value :=
 if ckR M O l zs (decide (l.length = zs.length)) = 0 then .tuple #[.string (nS (prV (num M) l zs)), .int .i64 0] else .tuple #[.string ⟨#[]⟩, .int .i64 (ckR M O l zs (decide (l.length = zs.length)))]
theorem ckR_zero {M O : ByteArray} {l : List ByteArray} {zs : List (Bool × ByteArray)} {same : Bool} (h : ckR M O l zs same = 0) : l.all nvalid = true ∧ zs.all (fun z => zvalid z.1 z.2) = true ∧ chkK M O = 0 ∧ same = true ∧ l.all (fun s => hasN (num M) (num O) (num s)) = true := by
 unfold ckR at h
 cases h1 : l.all nvalid with
 | false => rw [h1] at h; cases h
 | true =>
  rw [h1, if_neg (by decide)] at h
  cases h2 : zs.all (fun z => zvalid z.1 z.2) with
  | false => rw [h2] at h; cases h
  | true =>
   rw [h2, if_neg (by decide)] at h
   by_cases h3 : chkK M O = 0
   · rw [if_pos h3] at h
     cases same with
     | false => cases h
     | true =>
      rw [if_neg (by decide)] at h
      cases h4 : l.all (fun s => hasN (num M) (num O) (num s)) with
      | false => rw [h4] at h; cases h
      | true => exact ⟨rfl, rfl, h3, rfl, rfl⟩
   · rw [if_neg h3] at h; exact (h3 h).elim
theorem zvalid_nv {b : Bool} {s : ByteArray} (h : zvalid b s = true) : nvalid s = true := by
 unfold zvalid at h
 simp only [Bool.and_eq_true] at h
 exact h.1
theorem nvalid_lt {s : ByteArray} (h : nvalid s = true) : num s < 256 ^ 128 := num_lt (by unfold nvalid at h; simp at h; exact h.1)
theorem invN_lt {x M : Nat} (h : 0 < M) : invN x M < M := by
 unfold invN
 cases hf : (List.range M).find? (fun y => decide (x * y % M = 1)) with
 | none => exact h
 | some z => exact List.mem_range.1 (List.mem_of_find?_eq_some hf)
theorem mm1 (X b m : Nat) : X % m * b % m = X * b % m := by rw [Nat.mul_mod, Nat.mod_mod, ← Nat.mul_mod]
def St (w wr : World) (g Bl Bo n : Nat) (f : Nat → ByteArray) (M O : ByteArray) (acc : Nat) : Prop :=
 BoxS wr Bo (nS acc) ∧ OutS wr Bl n n f ∧ Bx2 wr g (.string M) (.string O) 24 ∧ Below g w wr
theorem St.times {w wr w1 : World} {g Bl Bo n : Nat} {f : Nat → ByteArray} {M O : ByteArray} {acc : Nat} (h : St w wr g Bl Bo n f M O acc) (hne : Bl ≠ Bo ∧ g ≠ Bo ∧ g ≤ Bo) (hb : Below wr.heap.size wr w1) (acc' : Nat) :
 St w (w1.setCell ⟨Bo, 0, none⟩ (.string (nS acc'))) g Bl Bo n f M O acc' := by
 obtain ⟨h1, h2, h3, h4⟩ := h
 have e1 : BoxS w1 Bo (nS acc) := (hb.block _ (block_lt h1)).trans h1
 have hgs : g ≤ wr.heap.size := Nat.le_of_lt h3.lt
 refine ⟨block_setCell e1 _, (h2.next hb).keep (heap_setCell_other _ _ _ _ hne.1), (heap_setCell_other _ _ _ _ hne.2.1).trans (h3.next hb), ?_⟩
 exact (h4.trans (hb.mono hgs)).setCell (p := ⟨Bo, 0, none⟩) hne.2.2 _
theorem pw_Product_bad (M O : ByteArray) (l : List ByteArray) (zs : List (Bool × ByteArray)) (A B : Option Addr) (n c m d : Nat) (hM : M.size ≤ 8) (hO : O.size ≤ 8) (hls : ∀ s ∈ l, s.size ≤ 1000) (hzs : ∀ z ∈ zs, z.2.size ≤ 1000) (hn : n ≤ 100) (hm : m ≤ 100) (w : World) (hl : SlN w A n c l) (hz : SlZ w B m d zs) (hck : ckR M O l zs (decide (l.length = zs.length)) ≠ 0) :
 Calls Tryz.prog 84 #[gV M O, .slice A n c, .slice B m d] w (Ret (.tuple #[.string ⟨#[]⟩, .int .i64 (ckR M O l zs (decide (l.length = zs.length)))]) w) := by
 have HB0 := Hq ((Below.refl w.heap.size w).alloc (Nat.le_refl _) (.cells #[.string M, .string O] 24))
 have HCK := Hq (pw_checked M O l zs (decide (l.length = zs.length)) A B n c m d hM hO hls hzs (by omega) (by omega) _ (hl.kept HB0.out (Nat.le_refl _)) (hz.kept HB0.out (Nat.le_refl _)))
 obtain ⟨R, hR⟩ : ∃ R, ckR M O l zs (decide (l.length = zs.length)) = R := ⟨_, rfl⟩
 rw [hR] at HCK hck ⊢
 have hsm : (((n : Nat) : Int) == ((m : Nat) : Int)) = decide (l.length = zs.length) := by rw [hl.1, hz.1, Bool.eq_iff_iff, beq_iff_eq, decide_eq_true_eq]; omega
 obtain ⟨sm, hsm2⟩ : ∃ sm, decide (l.length = zs.length) = sm := ⟨_, rfl⟩
 rw [hsm2] at HCK hsm
 have hcb : (R == 0) = false := by rw [beq_eq_false_iff_ne]; exact hck
 have hcb2 : (R != 0) = true := by rw [bne, hcb]; rfl
 clear hR hsm2 hl hz hls hzs hM hO hck
 unfold gV at *
 go_enter Tryz.func84, Tryz.ntmps84
 go_wp2_with fail
 refine HCK.out.mono ?_
 rintro e w1 ⟨rfl, hb⟩
 have HB1 := Hq (HB0.out.trans (hb.mono HB0.out.size))
 clear hb
 go_wp2
 go_ret2
 exact ⟨rfl, HB1.out⟩
theorem pw_Product_good (M O : ByteArray) (l : List ByteArray) (zs : List (Bool × ByteArray)) (A B : Option Addr) (n c d : Nat) (hM : M.size ≤ 8) (hO : O.size ≤ 8) (hls : ∀ s ∈ l, s.size ≤ 1000) (hzs : ∀ z ∈ zs, z.2.size ≤ 1000) (hn : n ≤ 100) (w : World) (hl : SlN w A n c l) (hz : SlZ w B n d zs) (hck : ckR M O l zs true = 0) :
 Calls Tryz.prog 84 #[gV M O, .slice A n c, .slice B n d] w (Ret (.tuple #[.string (nS (prV (num M) l zs)), .int .i64 0]) w) := by
 have HB0 := Hq ((Below.refl w.heap.size w).alloc (Nat.le_refl _) (.cells #[.string M, .string O] 24))
 have HX0 := Hq (Bx2.new w (.string M) (.string O) 24)
 have HCK := Hq (pw_checked M O l zs true A B n c n d hM hO hls hzs (by omega) (by omega) _ (hl.kept HB0.out (Nat.le_refl _)) (hz.kept HB0.out (Nat.le_refl _)))
 obtain ⟨g1, g2, g3, _, g5⟩ := ckR_zero hck
 obtain ⟨v1, v2, g6⟩ := chkK_parts g3
 rw [hck] at HCK
 have hm8 := num_small hM
 have hmp := chkN_one g6
 have HL := Hq hl
 have HZ := Hq hz
 have HNL := Hq hl.1
 have HNZ := Hq hz.1
 have hMe := nS_num v1
 obtain ⟨m, hm⟩ : ∃ m, num M = m := ⟨_, rfl⟩
 rw [hm] at hMe g5 g6 hm8 hmp ⊢
 have HPM := Hq hmp
 have HM8 := Hq hm8
 have HUN := Hq (fun (s : ByteArray) (k : Nat) (hs : l[k]? = some s) => show num s < m ∧ Nat.gcd (num s) m = 1 ∧ s = nS (num s) from by
  have h1 := hasN_unit (all_get (l := l) (p := fun s => hasN m (num O) (num s)) g5 hs) g6
  exact ⟨h1.1, h1.2.2, nS_num (all_get (l := l) g1 hs)⟩)
 have HZV := Hq (fun (z : Bool × ByteArray) (k : Nat) (hs : zs[k]? = some z) => show z.2 = nS (num z.2) ∧ num z.2 < 256 ^ 128 from by
  have h1 := zvalid_nv (all_get (l := zs) (p := fun z => zvalid z.1 z.2) g2 hs)
  exact ⟨nS_num h1, nvalid_lt h1⟩)
 have HIN := Hq (fun (x : Nat) (hx : x < m) (hg : Nat.gcd x m = 1) => mod_Inverse x m hx hm8 hmp hg)
 obtain ⟨LL, hLL⟩ : ∃ LL, bL m l zs = LL := ⟨_, rfl⟩
 have HLL := Hq (fun (k : Nat) (s : ByteArray) (z : Bool × ByteArray) (h1 : l[k]? = some s) (h2 : zs[k]? = some z) => show LL[k]? = some (baseN (num s) z.1 m, num z.2) from by rw [← hLL]; exact bL_get h1 h2)
 have HPV := Hq (show prV m l zs = pp LL 0 % m from by unfold prV; rw [hLL])
 have HLN := Hq (show LL.length = n from by rw [← hLL]; unfold bL; rw [List.length_zipWith, HNL.out, HNZ.out, Nat.min_self])
 obtain ⟨f, hf⟩ : ∃ f : Nat → ByteArray, ∀ (k : Nat) x, LL[k]? = some x → f k = nS x.1 := ⟨fun k => nS ((LL[k]?).getD (0, 0)).1, fun k x h => by simp only [h]; rfl⟩
 have HF := Hq hf
 rw [HPV.out]
 have hsm : (((n : Nat) : Int) == ((n : Nat) : Int)) = true := by simp
 have hmk := fun (w : World) => make_strs n (by omega) w
 have HMe := Hq hMe
 have HN := Hq hn
 clear hl hz hls hzs hM hO hck g1 g2 g3 g5 v1 v2 g6 hm8 hmp hm hLL hf hMe
 unfold gV at *
 go_enter Tryz.func84, Tryz.ntmps84
 go_wp2_with fail
 refine HCK.out.mono ?_
 rintro e w1 ⟨rfl, hb⟩
 have HB1 := Hq (HB0.out.trans (hb.mono HB0.out.size))
 have HX1 := Hq (HX0.out.next hb)
 clear hb
 go_wp2
 clear hmk
 have HWK := Hq (Nat.le_of_lt HX1.out.lt)
 obtain ⟨Bl, hBl⟩ : ∃ Bl, w1.heap.size = Bl := ⟨_, rfl⟩
 obtain ⟨W1, hW1⟩ : ∃ W1, w1.alloc (.cells (zs_ n) 22) = W1 := ⟨_, rfl⟩
 have HO1 := Hq (show OutS W1 Bl n 0 f from by rw [← hW1, ← hBl]; exact OutS.start n f)
 have hb1 : Below w1.heap.size w1 W1 := by rw [← hW1]; exact (Below.refl _ _).alloc (Nat.le_refl _) _
 have HX2 := Hq (HX1.out.next hb1)
 have HB2 := Hq (HB1.out.trans (hb1.mono HB1.out.size))
 have HNE := Hq (show w.heap.size ≤ Bl ∧ w.heap.size ≠ Bl from by rw [← hBl]; have := HX1.out.lt; exact ⟨by omega, by omega⟩)
 try rw [hW1]
 try rw [hBl]
 have HW1 := Hq hW1
 have HBl := Hq hBl
 clear hW1 hBl hb1
 go_loopw [10, 37] (fun mx i wr => ∃ k : Nat, k ≤ n ∧ i = .int .i64 k ∧ mx = .int .i64 ((mxL (LL.take k) : Nat) : Int) ∧ OutS wr Bl n k f ∧ Bx2 wr w.heap.size (.string M) (.string O) 24 ∧ Below w.heap.size w wr) (fun _ i _ => n - (intOf i).toNat)
 case atStart => exact ⟨0, Nat.zero_le _, rfl, rfl, by first | exact HO1.out | (rw [HW1.out]; exact HO1.out), by first | exact HX2.out | (rw [HW1.out]; exact HX2.out), by first | exact HB2.out | (rw [HW1.out]; exact HB2.out)⟩
 case round =>
  obtain ⟨k, hk, rfl, rfl, hO, hX, hB⟩ := hrel
  have HO := Hq hO
  have HX := Hq hX
  have HB := Hq hB
  clear hO hX hB
  by_cases hlt : k < n
  · obtain ⟨s, hs⟩ : ∃ s, l[k]? = some s := ⟨_, List.getElem?_eq_getElem (by rw [HNL.out]; exact hlt)⟩
    obtain ⟨z, hz⟩ : ∃ z, zs[k]? = some z := ⟨_, List.getElem?_eq_getElem (by rw [HNZ.out]; exact hlt)⟩
    obtain ⟨bA, oA, rfl⟩ := HL.out.head (by omega)
    obtain ⟨bZ, oZ, rfl⟩ := HZ.out.head (by omega)
    have HSL := Hq (HL.out.kept HB.out (Nat.le_refl _))
    have HSZ := Hq (HZ.out.kept HB.out (Nat.le_refl _))
    have cA := HSL.out.get? k hs
    obtain ⟨cZ0, cZ1⟩ := HSZ.out.get? k hz
    have HLk := Hq (HLL.out k s z hs hz)
    have HZk := Hq (HZV.out z k hz)
    have HSk := Hq (HUN.out s k hs)
    have HZc := Hq hz
    obtain ⟨zb, zt⟩ := z
    dsimp only at cZ0 cZ1 HLk HZk
    have HBI := Hq (fun w => show Calls Tryz.prog 128 #[.string zt] w (RetQ (.int .i64 (blen (num zt))) w) from by
     have := nat_Bits (num zt) HZk.out.2 w
     rwa [← HZk.out.1] at this)
    have HMX := Hq (mxL_take HLk.out)
    obtain ⟨u, hu⟩ := HO.out.has_ hlt
    have hfz := HO.out.free k
    have HBC := Hq (fun (W : World) (hW : Below w.heap.size w W) => show (W.cell? ⟨bZ, oZ + k * 2 + 1, none⟩ = some (.string zt)) from ((HZ.out.kept hW (Nat.le_refl _)).get? k HZc.out).2)
    have hba : bA ≠ Bl := fun e => by
     have := World.block_lt_of_cell? _ _ (HL.out.get? k hs)
     have h2 := HNE.out.1
     simp only at this
     omega
    have hbz : bZ ≠ Bl := fun e => by
     have := World.block_lt_of_cell? _ _ (HZ.out.get? k HZc.out).1
     have h2 := HNE.out.1
     simp only at this
     omega
    have HB3 := Hq (HB.out.setCell (p := ⟨Bl, k, none⟩) HNE.out.1 (.string s))
    have HX3 := Hq (show Bx2 (wr.setCell ⟨Bl, k, none⟩ (.string s)) w.heap.size (.string M) (.string O) 24 from (heap_setCell_other _ _ _ _ HNE.out.2).trans HX.out)
    have HO3 := Hq (HO.out.put (.string s))
    clear hs hz
    cases zb with
    | false =>
     have HFk := Hq (show f k = s from by rw [HF.out k _ HLk.out]; exact HSk.out.2.2.symm)
     have HO4 := Hq (show OutS (wr.setCell ⟨Bl, k, none⟩ (.string s)) Bl n (k + 1) f from by have := HO.out.step hlt; rwa [HFk.out] at this)
     go_wp2_with fail
     refine (HBI.out _).mono ?_
     rintro e w2 ⟨rfl, rfl⟩
     go_wp2
     go_roundw
     case rel => exact ⟨k + 1, by omega, by go_num, by rw [HMX.out]; show Value.int .i64 _ = Value.int .i64 _; congr 1; omega, HO4.out, HX3.out, HB3.out⟩
     case measure => simp [intOf]; omega
    | true =>
     have HII := Hq (HIN.out (num s) HSk.out.1 HSk.out.2.1)
     rw [← HSk.out.2.2, ← HMe.out] at HII
     have d0 := HX3.out.c0
     have d1 := HX3.out.c1
     go_wp2_with fail
     refine (HII.out _).mono ?_
     rintro e w2 ⟨y, rfl, hb2, hym, hxy⟩
     have HFk := Hq (show f k = nS y from by rw [HF.out k _ HLk.out]; unfold baseN; rw [if_pos rfl, invN_of hym hxy])
     have HO5 := Hq (HO3.out.next hb2)
     have HX5 := Hq (HX3.out.next hb2)
     have HB5 := Hq (HB3.out.trans (hb2.mono HB3.out.size))
     obtain ⟨u2, hu2⟩ := HO5.out.has_ hlt
     have hf2 := HO5.out.free k
     have HO6 := Hq (show OutS (w2.setCell ⟨Bl, k, none⟩ (.string (nS y))) Bl n (k + 1) f from by have := HO5.out.step hlt; rwa [HFk.out] at this)
     have HX6 := Hq (show Bx2 (w2.setCell ⟨Bl, k, none⟩ (.string (nS y))) w.heap.size (.string M) (.string O) 24 from (heap_setCell_other _ _ _ _ HNE.out.2).trans HX5.out)
     have HB6 := Hq (HB5.out.setCell (p := ⟨Bl, k, none⟩) HNE.out.1 (.string (nS y)))
     have cZ2 := HBC.out w2 HB5.out
     clear hb2 hxy d0 d1
     go_wp2_with fail
     refine (HBI.out _).mono ?_
     rintro e w3 ⟨rfl, rfl⟩
     go_wp2
     go_roundw
     case rel => exact ⟨k + 1, by omega, by go_num, by rw [HMX.out]; show Value.int .i64 _ = Value.int .i64 _; congr 1; omega, HO6.out, HX6.out, HB6.out⟩
     case measure => simp [intOf]; omega
  · obtain rfl : k = n := by omega
    have HT := Hq (show LL.take k = LL from by rw [← HLN.out, List.take_length])
    rw [HT.out]
    obtain ⟨mx, hmx⟩ : ∃ mx, mxL LL = mx := ⟨_, rfl⟩
    rw [hmx]
    have HMX := Hq hmx
    clear hmx
    have hmx : mx ≤ 1024 := by
     rw [← HMX.out]
     have hall : ∀ (L : List (Nat × Nat)), (∀ x ∈ L, blen x.2 ≤ 1024) → mxL L ≤ 1024 := by
      intro L
      induction L with
      | nil => intro _; exact Nat.zero_le _
      | cons a L ih => intro h; have h2 := ih (fun x hx => h x (List.mem_cons_of_mem _ hx)); have h3 := h a List.mem_cons_self; simp only [mxL]; omega
     refine hall LL (fun x hx => ?_)
     obtain ⟨j, hj⟩ := List.getElem?_of_mem hx
     have hjl := (List.getElem?_eq_some_iff.1 hj).1
     rw [HLN.out] at hjl
     obtain ⟨s', hs'⟩ : ∃ s, l[j]? = some s := ⟨_, List.getElem?_eq_getElem (by rw [HNL.out]; exact hjl)⟩
     obtain ⟨z', hz'⟩ : ∃ z, zs[j]? = some z := ⟨_, List.getElem?_eq_getElem (by rw [HNZ.out]; exact hjl)⟩
     rw [HLL.out j s' z' hs' hz'] at hj
     simp only [Option.some.injEq] at hj
     rw [← hj]
     exact blen_1024 (HZV.out z' j hz').2
    go_wp2_with fail
    refine (nat_Of 1 (by decide) _).mono ?_
    rintro e w2 ⟨rfl, hb2⟩
    have HO2 := Hq (HO.out.next hb2)
    have HX3 := Hq (HX.out.next hb2)
    have HB3 := Hq (HB.out.trans (hb2.mono HB.out.size))
    clear hb2
    go_wp2
    obtain ⟨Bo, hBo⟩ : ∃ Bo, w2.heap.size = Bo := ⟨_, rfl⟩
    obtain ⟨W3, hW3⟩ : ∃ W3, w2.alloc (.cells #[.string (bstr (encN 1))] 22) = W3 := ⟨_, rfl⟩
    have hbo : Bl < Bo ∧ w.heap.size < Bo := by rw [← hBo]; exact ⟨HO2.out.lt, HX3.out.lt⟩
    have hb3 : Below w2.heap.size w2 W3 := by rw [← hW3]; exact (Below.refl _ _).alloc (Nat.le_refl _) _
    have HST := Hq (show St w W3 w.heap.size Bl Bo k f M O (pp LL mx % m) from by
     refine ⟨?_, HO2.out.next hb3, HX3.out.next hb3, HB3.out.trans (hb3.mono HB3.out.size)⟩
     rw [← HMX.out, pp_top, Nat.mod_eq_of_lt HPM.out, ← hW3, ← hBo]
     exact heap_alloc_new _ _)
    have HNB := Hq (show Bl ≠ Bo ∧ w.heap.size ≠ Bo ∧ w.heap.size ≤ Bo from by omega)
    try rw [hW3]
    try rw [hBo]
    have HW3 := Hq hW3
    clear hW3 hBo hbo hb3
    have HPT := Hq (fun (a x : Nat) (w' : World) (hst : St w w' w.heap.size Bl Bo k f M O a) (ha : a < m) (hx : x < m) => show Calls Tryz.prog 129 #[.string (nS x), .pointer (some ⟨Bo, 0, none⟩), .pointer (some ⟨w.heap.size, 0, none⟩)] w' (RetT Bo (.string (nS (a * x % m))) w') from by
     have h8 := HM8.out
     exact pw_times w.heap.size Bo a x m O w' (by rw [← HMe.out]; exact hst.2.2.1) hst.1 (by omega) (by omega) h8 (by omega))
    go_loopw [17] (fun i wr => ∃ K : Nat, K ≤ mx ∧ i = .int .i64 ((K : Int) - 1) ∧ St w wr w.heap.size Bl Bo k f M O (pp LL K % m)) (fun i _ => (intOf i + 1).toNat)
    case atStart => exact ⟨mx, Nat.le_refl _, rfl, by first | exact HST.out | (rw [HW3.out]; exact HST.out)⟩
    case round =>
     obtain ⟨K, hK, rfl, hst⟩ := hrel
     have HSTK := Hq hst
     clear hst
     by_cases hlt : 0 < K
     · obtain ⟨e, rfl⟩ : ∃ e, K = e + 1 := ⟨K - 1, by omega⟩
       rw [show ((e + 1 : Nat) : Int) - 1 = (e : Int) from by omega]
       have he0 : (0 : Int) ≤ (e : Int) := by omega
       obtain ⟨P, hP⟩ : ∃ P, pp LL (e + 1) = P := ⟨_, rfl⟩
       have HPP := Hq hP
       rw [hP] at HSTK
       clear hP
       have cB : wr.cell? ⟨Bo, 0, none⟩ = some (.string (nS (P % m))) := by rw [Lib.cell_of_heap HSTK.out.1]; rfl
       have hpm : P % m < m := Nat.mod_lt _ (by have := HPM.out; omega)
       go_wp2_with fail
       refine (HPT.out (P % m) (P % m) _ HSTK.out hpm hpm).mono ?_
       rintro ev w4 ⟨rfl, w5, hb5, rfl⟩
       have HST4 := Hq (HSTK.out.times HNB.out hb5 (P % m * (P % m) % m))
       obtain ⟨W4, hW4⟩ : ∃ W4, w5.setCell ⟨Bo, 0, none⟩ (.string (nS (P % m * (P % m) % m))) = W4 := ⟨_, rfl⟩
       rw [hW4] at HST4 ⊢
       clear hW4 hb5 cB hpm
       go_wp2
       go_loopw [87] (fun j wr => ∃ q : Nat, q ≤ k ∧ j = .int .i64 q ∧ St w wr w.heap.size Bl Bo k f M O (P * P * qq (LL.take q) e % m)) (fun j _ => k - (intOf j).toNat)
       case atStart => exact ⟨0, Nat.zero_le _, rfl, by
        have := HST4.out
        rw [← Nat.mul_mod] at this
        rw [List.take_zero, show qq [] e = 1 from rfl, Nat.mul_one]
        exact this⟩
       case round =>
        obtain ⟨q, hq, rfl, hst⟩ := hrel
        have HSQ := Hq hst
        clear hst
        by_cases hlq : q < k
        · obtain ⟨s, hs⟩ : ∃ s, l[q]? = some s := ⟨_, List.getElem?_eq_getElem (by rw [HNL.out]; exact hlq)⟩
          obtain ⟨z, hz⟩ : ∃ z, zs[q]? = some z := ⟨_, List.getElem?_eq_getElem (by rw [HNZ.out]; exact hlq)⟩
          obtain ⟨bZ, oZ, rfl⟩ := HZ.out.head (by omega)
          obtain ⟨cZ0, cZ1⟩ := (HZ.out.kept HSQ.out.2.2.2 (Nat.le_refl _)).get? q hz
          have HLk := Hq (HLL.out q s z hs hz)
          have HZk := Hq (HZV.out z q hz)
          have HSk := Hq (HUN.out s q hs)
          obtain ⟨zb, zt⟩ := z
          dsimp only at cZ0 cZ1 HLk HZk
          have cL := HSQ.out.2.1.cell hlq
          rw [HF.out q _ HLk.out] at cL
          have HBT := Hq (fun w => show Calls Tryz.prog 107 #[.string zt, .int .i64 e] w (RetQ (.bool (bitB (num zt) e)) w) from by
           have h1 := blen_1024 HZk.out.2
           have := nat_Bit (num zt) e HZk.out.2 (by omega) w
           rwa [← HZk.out.1] at this)
          have HQT := Hq (qq_take HLk.out e)
          have HBM := Hq (show baseN (num s) zb m < m from by
           unfold baseN
           split
           · exact invN_lt (by have := HPM.out; omega)
           · exact HSk.out.1)
          obtain ⟨b, hb⟩ : ∃ b, baseN (num s) zb m = b := ⟨_, rfl⟩
          rw [hb] at HQT HBM cL
          obtain ⟨X, hX⟩ : ∃ X, P * P * qq (LL.take q) e = X := ⟨_, rfl⟩
          have HXX := Hq hX
          rw [hX] at HSQ
          clear hs hz hb hX
          cases hbit : bitB (num zt) e with
          | true =>
           rw [hbit] at HBT HQT
           clear hbit
           go_wp2_with fail
           refine (HBT.out _).mono ?_
           rintro ev w6 ⟨rfl, rfl⟩
           have hxm : X % m < m := Nat.mod_lt _ (by have := HPM.out; omega)
           go_wp2_with fail
           refine (HPT.out (X % m) b _ HSQ.out hxm HBM.out).mono ?_
           rintro ev w7 ⟨rfl, w8, hb8, rfl⟩
           have HST7 := Hq (HSQ.out.times HNB.out hb8 (X % m * b % m))
           obtain ⟨W7, hW7⟩ : ∃ W7, w8.setCell ⟨Bo, 0, none⟩ (.string (nS (X % m * b % m))) = W7 := ⟨_, rfl⟩
           rw [hW7] at HST7 ⊢
           clear hW7 hb8 hxm
           go_wp2
           go_roundw
           case rel => exact ⟨q + 1, by omega, by go_num, by
            have := HST7.out
            rw [mm1] at this
            rw [HQT.out, if_pos trivial, ← Nat.mul_assoc, HXX.out]
            exact this⟩
           case measure => simp [intOf]; omega
          | false =>
           rw [hbit] at HBT HQT
           clear hbit
           go_wp2_with fail
           refine (HBT.out _).mono ?_
           rintro ev w6 ⟨rfl, rfl⟩
           go_wp2
           go_roundw
           case rel => exact ⟨q + 1, by omega, by go_num, by
            rw [HQT.out, if_neg (by decide), Nat.mul_one, HXX.out]
            exact HSQ.out⟩
           case measure => simp [intOf]; omega
        · obtain rfl : q = k := by omega
          have HSE := Hq (show St w wr w.heap.size Bl Bo q f M O (pp LL e % m) from by
           have := HSQ.out
           rw [HT.out] at this
           rw [pp_step, HPP.out]
           exact this)
          go_wp2
          go_roundw
          case rel => exact ⟨e, by omega, by go_num, HSE.out⟩
          case measure => simp [intOf] <;> omega
     · obtain rfl : K = 0 := by omega
       have hneg : ((0 : Nat) : Int) - 1 = -1 := rfl
       rw [hneg]
       have cB : wr.cell? ⟨Bo, 0, none⟩ = some (.string (nS (pp LL 0 % m))) := by rw [Lib.cell_of_heap HSTK.out.1]; rfl
       go_wp2
       go_ret2
       exact ⟨rfl, HSTK.out.2.2.2⟩
theorem pw_Product (M O : ByteArray) (l : List ByteArray) (zs : List (Bool × ByteArray)) (A B : Option Addr) (n c m d : Nat) (hM : M.size ≤ 8) (hO : O.size ≤ 8) (hls : ∀ s ∈ l, s.size ≤ 1000) (hzs : ∀ z ∈ zs, z.2.size ≤ 1000) (hn : n ≤ 100) (hm : m ≤ 100) (w : World) (hl : SlN w A n c l) (hz : SlZ w B m d zs) :
 Calls Tryz.prog 84 #[gV M O, .slice A n c, .slice B m d] w (Ret (prR M O l zs) w) := by
 unfold prR
 by_cases hck : ckR M O l zs (decide (l.length = zs.length)) = 0
 · rw [if_pos hck]
   have hs := (ckR_zero hck).2.2.2.1
   have hlen := of_decide_eq_true hs
   rw [hs] at hck
   obtain rfl : n = m := by rw [← hl.1, ← hz.1, hlen]
   exact pw_Product_good M O l zs A B n c d hM hO hls hzs hn w hl hz hck
 · rw [if_neg hck]
   exact pw_Product_bad M O l zs A B n c m d hM hO hls hzs hn hm w hl hz hck
end Go.Proofs.YtndmjfkmnjejkaaGreatDoor
namespace Go.Proofs.YtndmjfkmnjejkaaGreatDoor
set_option maxRecDepth 100000
set_option maxHeartbeats 1000000
open Go.RowKit
def fitZ (z : Int) : Value := if z.natAbs < 256 ^ 128 then .tuple #[intV z, .int .i64 0] else .tuple #[intV 0, .int .i64 5]
theorem fitR_cut (n : Nat) : ∃ (k : Nat) (c : Int), fitR n = .tuple #[.string (nS k), .int .i64 c] ∧ ∀ (z : Int) (b : Bool), z.natAbs = n → sg b n = z → fitZ z = .tuple #[intV (sg b k), .int .i64 c] := by
 unfold fitR
 by_cases h : n < 256 ^ 128
 · rw [if_pos h]
   exact ⟨n, 0, rfl, fun z b hz hs => by unfold fitZ; rw [if_pos (by rw [hz]; exact h), hs]⟩
 · rw [if_neg h]
   exact ⟨0, 5, by rw [nS_zero], fun z b hz hs => by unfold fitZ; rw [if_neg (by rw [hz]; exact h)]; cases b <;> rfl⟩
def I3 (w W : World) (x0 x1 y0 y1 r0 r1 : Value) : Prop := Bx2 W w.heap.size x0 x1 28 ∧ Bx2 W (w.heap.size + 1) y0 y1 28 ∧ Bx2 W (w.heap.size + 1 + 1) r0 r1 28 ∧ Below w.heap.size w W
theorem I3.new (w : World) (x0 x1 y0 y1 r0 r1 : Value) : I3 w (((w.alloc (.cells #[x0, x1] 28)).alloc (.cells #[y0, y1] 28)).alloc (.cells #[r0, r1] 28)) x0 x1 y0 y1 r0 r1 := by
 refine ⟨((Bx2.new w _ _ _).next ((Below.refl _ _).alloc (Nat.le_refl _) _)).next ((Below.refl _ _).alloc (Nat.le_refl _) _), ?_, ?_, (((Below.refl w.heap.size w).alloc (Nat.le_refl _) _).alloc (by simp) _).alloc (by simp; omega) _⟩
 · have := Bx2.new (w.alloc (.cells #[x0, x1] 28)) y0 y1 28
   rw [World.size_alloc] at this
   exact this.next ((Below.refl _ _).alloc (Nat.le_refl _) _)
 · have := Bx2.new ((w.alloc (.cells #[x0, x1] 28)).alloc (.cells #[y0, y1] 28)) r0 r1 28
   rw [World.size_alloc, World.size_alloc] at this
   exact this
theorem I3.next {w W W' : World} {x0 x1 y0 y1 r0 r1 : Value} (h : I3 w W x0 x1 y0 y1 r0 r1) (hb : Below W.heap.size W W') : I3 w W' x0 x1 y0 y1 r0 r1 := by
 have hs : w.heap.size ≤ W.heap.size := Nat.le_of_lt h.1.lt
 exact ⟨h.1.next hb, h.2.1.next hb, h.2.2.1.next hb, h.2.2.2.trans (hb.mono hs)⟩
theorem I3.cells {w W : World} {x0 x1 y0 y1 r0 r1 : Value} (h : I3 w W x0 x1 y0 y1 r0 r1) : W.cell? ⟨w.heap.size, 0, none⟩ = some x0 ∧ W.cell? ⟨w.heap.size, 1, none⟩ = some x1 ∧ W.cell? ⟨w.heap.size + 1, 0, none⟩ = some y0 ∧ W.cell? ⟨w.heap.size + 1, 1, none⟩ = some y1 ∧ W.cell? ⟨w.heap.size + 1 + 1, 0, none⟩ = some r0 ∧ W.cell? ⟨w.heap.size + 1 + 1, 1, none⟩ = some r1 ∧ W.frozen? ⟨w.heap.size + 1 + 1, 0, none⟩ = false ∧ W.frozen? ⟨w.heap.size + 1 + 1, 1, none⟩ = false :=
 ⟨h.1.c0, h.1.c1, h.2.1.c0, h.2.1.c1, h.2.2.1.c0, h.2.2.1.c1, h.2.2.1.f0, h.2.2.1.f1⟩
theorem I3.done {w W : World} {x0 x1 y0 y1 r0 r1 : Value} (h : I3 w W x0 x1 y0 y1 r0 r1) (u v : Value) : ((W.setCell ⟨w.heap.size + 1 + 1, 0, none⟩ u).setCell ⟨w.heap.size + 1 + 1, 1, none⟩ v).cell? ⟨w.heap.size + 1 + 1, 0, none⟩ = some u ∧ ((W.setCell ⟨w.heap.size + 1 + 1, 0, none⟩ u).setCell ⟨w.heap.size + 1 + 1, 1, none⟩ v).cell? ⟨w.heap.size + 1 + 1, 1, none⟩ = some v ∧ Below w.heap.size w ((W.setCell ⟨w.heap.size + 1 + 1, 0, none⟩ u).setCell ⟨w.heap.size + 1 + 1, 1, none⟩ v) := by
 have hY := h.2.2.1.set2 (u := u) (v := v)
 exact ⟨hY.c0, hY.c1, (h.2.2.2.setCell (p := ⟨w.heap.size + 1 + 1, 0, none⟩) (by simp only []; omega) _).setCell (p := ⟨w.heap.size + 1 + 1, 1, none⟩) (by simp only []; omega) _⟩
theorem r01_Cmp (x y : Nat) (hx : x < 256 ^ 128) (hy : y < 256 ^ 128) (w : World) : Calls Tryz.prog 146 #[.string (nS x), .string (nS y)] w (Ret (.int .i64 (cmpI x y)) w) := by
 have HV1 := Hq (r01_Valid (nS x) (by have := nS_size_le.2 hx; omega))
 have HV2 := Hq (r01_Valid (nS y) (by have := nS_size_le.2 hy; omega))
 rw [nvalid_nS.2 hx] at HV1
 rw [nvalid_nS.2 hy] at HV2
 have HO := Hq (r01_Order (nS x) (nS y) (by have := nS_size_le.2 hx; omega) (by have := nS_size_le.2 hy; omega))
 rw [ordB_nS] at HO
 obtain ⟨s, hs⟩ : ∃ s, nS x = s := ⟨_, rfl⟩
 obtain ⟨t, ht⟩ : ∃ t, nS y = t := ⟨_, rfl⟩
 rw [hs] at HV1 HO ⊢
 rw [ht] at HV2 HO ⊢
 clear hs ht hx hy
 go_enter Tryz.func146, Tryz.ntmps146
 go_wp2_with fail
 refine (HV1.out _).mono ?_
 rintro e w1 ⟨rfl, rfl⟩
 go_wp2_with fail
 refine (HV2.out _).mono ?_
 rintro e w1 ⟨rfl, rfl⟩
 go_wp2_with fail
 refine (HO.out _).mono ?_
 rintro e w2 ⟨rfl, hb⟩
 have HB := Hq hb
 clear hb
 go_wp2
 go_ret
 exact ⟨rfl, HB.out⟩
theorem r02_Neg (z : Int) (hz : z.natAbs < 256 ^ 128) (w : World) : Calls Tryz.prog 227 #[intV z] w (Ret (intV (-z)) w) := by
 have HV := Hq (r02_Valid_n z hz)
 have HM := Hq (r02_Make_n (!decide (z < 0)) z.natAbs)
 have HE := Hq (show sg (!decide (z < 0)) z.natAbs = -z from by
  unfold sg
  by_cases h : z < 0
  · rw [decide_eq_true h]; simp; omega
  · rw [decide_eq_false h]; simp; omega)
 rw [HE.out] at HM
 unfold intV zV at *
 obtain ⟨a, ha⟩ : ∃ a, decide (z < 0) = a := ⟨_, rfl⟩
 obtain ⟨s, hs⟩ : ∃ s, nS z.natAbs = s := ⟨_, rfl⟩
 obtain ⟨b, hb⟩ : ∃ b, decide (-z < 0) = b := ⟨_, rfl⟩
 obtain ⟨t, ht⟩ : ∃ t, nS (-z).natAbs = t := ⟨_, rfl⟩
 rw [ha, hs] at HV
 rw [ha, hs, hb, ht] at HM
 rw [ha, hs, hb, ht]
 clear ha hs hb ht hz HE
 go_enter Tryz.func227, Tryz.ntmps227
 go_wp2_with fail
 refine (HV.out _).mono ?_
 rintro e w1 ⟨rfl, hb1⟩
 have HB0 := Hq (((Below.refl w.heap.size w).alloc (Nat.le_refl _) (.cells #[.bool a, .string s] 28)).alloc (by simp) (.cells #[.bool false, .string ⟨#[]⟩] 28))
 have hX1 := ((Bx2.new w (.bool a) (.string s) 28).kept ((Below.refl _ _).alloc (Nat.le_refl _) (.cells #[.bool false, .string ⟨#[]⟩] 28)) (by simp)).next hb1
 have hY0 : Bx2 ((w.alloc (.cells #[.bool a, .string s] 28)).alloc (.cells #[.bool false, .string ⟨#[]⟩] 28)) (w.heap.size + 1) (.bool false) (.string ⟨#[]⟩) 28 := by
  have := Bx2.new (w.alloc (.cells #[.bool a, .string s] 28)) (.bool false) (.string ⟨#[]⟩) 28
  rwa [World.size_alloc] at this
 have HY1 := Hq (hY0.next hb1)
 have HB1 := Hq (HB0.out.trans (hb1.mono HB0.out.size))
 have c0 := hX1.c0
 have c1 := hX1.c1
 clear hb1 hY0 hX1
 go_wp2_with fail
 refine (HM.out _).mono ?_
 rintro e w2 ⟨rfl, hb2⟩
 have hY2 := HY1.out.next hb2
 have HY2 := Hq hY2
 have HB2 := Hq (HB1.out.trans (hb2.mono HB1.out.size))
 have d0 := hY2.c0
 have d1 := hY2.c1
 have f0 := hY2.f0
 have f1 := hY2.f1
 clear hb2 hY2
 go_wp2
 have hY := HY2.out.set2 (u := .bool b) (v := .string t)
 have q0 := hY.c0
 have q1 := hY.c1
 exact bodyPost_ret (v := .agg #[.bool b, .string t]) (by simp [results, Tryz.results227, go_sem, q0, q1]) rfl ⟨rfl, (HB2.out.setCell (p := ⟨w.heap.size + 1, 0, none⟩) (by simp) _).setCell (p := ⟨w.heap.size + 1, 1, none⟩) (by simp) _⟩
theorem r02_Mul (a b : Int) (ha : a.natAbs < 256 ^ 128) (hb : b.natAbs < 256 ^ 128) (w : World) : Calls Tryz.prog 169 #[intV a, intV b] w (Ret (fitZ (a * b)) w) := by
 have HVA := Hq (r02_Valid_n a ha)
 have HVB := Hq (r02_Valid_n b hb)
 have HM := Hq (r01_Mul a.natAbs b.natAbs ha hb)
 obtain ⟨k, rc, hk1, hk2⟩ := fitR_cut (a.natAbs * b.natAbs)
 have hsg : sg (decide (a < 0) != decide (b < 0)) (a.natAbs * b.natAbs) = a * b := by
  unfold sg
  by_cases h1 : a < 0
  · by_cases h2 : b < 0
    · rw [decide_eq_true h1, decide_eq_true h2, if_neg (by decide), Int.natCast_mul, Int.ofNat_natAbs_of_nonpos (by omega), Int.ofNat_natAbs_of_nonpos (by omega), Int.neg_mul_neg]
    · rw [decide_eq_true h1, decide_eq_false h2, if_pos (by decide), Int.natCast_mul, Int.ofNat_natAbs_of_nonpos (by omega), Int.natAbs_of_nonneg (by omega), Int.neg_mul, Int.neg_neg]
  · by_cases h2 : b < 0
    · rw [decide_eq_false h1, decide_eq_true h2, if_pos (by decide), Int.natCast_mul, Int.natAbs_of_nonneg (by omega), Int.ofNat_natAbs_of_nonpos (by omega), Int.mul_neg, Int.neg_neg]
    · rw [decide_eq_false h1, decide_eq_false h2, if_neg (by decide), Int.natCast_mul, Int.natAbs_of_nonneg (by omega), Int.natAbs_of_nonneg (by omega)]
 rw [hk2 (a * b) _ (Int.natAbs_mul a b) hsg]
 rw [hk1] at HM
 have HMK := Hq (r02_Make_n (decide (a < 0) != decide (b < 0)) k)
 unfold intV zV at HVA HVB
 obtain ⟨p, hp⟩ : ∃ p, decide (a < 0) = p := ⟨_, rfl⟩
 obtain ⟨q, hq⟩ : ∃ q, decide (b < 0) = q := ⟨_, rfl⟩
 obtain ⟨s, hs⟩ : ∃ s, nS a.natAbs = s := ⟨_, rfl⟩
 obtain ⟨t, ht⟩ : ∃ t, nS b.natAbs = t := ⟨_, rfl⟩
 rw [hp, hs] at HVA
 rw [hq, ht] at HVB
 rw [show intV a = .agg #[.bool p, .string s] from by rw [← hp, ← hs]; rfl, show intV b = .agg #[.bool q, .string t] from by rw [← hq, ← ht]; rfl]
 rw [hp, hq] at HMK
 rw [hp, hq]
 rw [hs, ht] at HM
 obtain ⟨kk, hkk⟩ : ∃ kk, nS k = kk := ⟨_, rfl⟩
 rw [hkk] at HM HMK
 unfold intV zV at HMK ⊢
 obtain ⟨u, hu⟩ : ∃ u, decide (sg (p != q) k < 0) = u := ⟨_, rfl⟩
 obtain ⟨v, hv⟩ : ∃ v, nS (sg (p != q) k).natAbs = v := ⟨_, rfl⟩
 rw [hu, hv] at HMK ⊢
 clear hp hq hs ht hkk hu hv hk1 hk2 hsg ha hb
 go_enter Tryz.func169, Tryz.ntmps169
 have hi := I3.new w (.bool p) (.string s) (.bool q) (.string t) (.bool false) (.string ⟨#[]⟩)
 obtain ⟨W0, hW0⟩ : ∃ W0, ((w.alloc (.cells #[.bool p, .string s] 28)).alloc (.cells #[.bool q, .string t] 28)).alloc (.cells #[.bool false, .string ⟨#[]⟩] 28) = W0 := ⟨_, rfl⟩
 rw [hW0] at hi
 have HI := Hq hi
 obtain ⟨c0, c1, d0, d1, e0, e1, f0, f1⟩ := hi.cells
 clear hi
 go_wp2_with fail
 try rw [hW0]
 clear hW0
 refine (HVA.out _).mono ?_
 rintro ev w1 ⟨rfl, hb⟩
 have hi := HI.out.next hb
 have HI := Hq hi
 clear hb c0 c1 d0 d1 e0 e1 f0 f1
 obtain ⟨c0, c1, d0, d1, e0, e1, f0, f1⟩ := hi.cells
 clear hi
 go_wp2_with fail
 refine (HVB.out _).mono ?_
 rintro ev w2 ⟨rfl, hb⟩
 have hi := HI.out.next hb
 have HI := Hq hi
 clear hb c0 c1 d0 d1 e0 e1 f0 f1
 obtain ⟨c0, c1, d0, d1, e0, e1, f0, f1⟩ := hi.cells
 clear hi
 go_wp2_with fail
 refine (HM.out _).mono ?_
 rintro ev w3 ⟨rfl, hb⟩
 have hi := HI.out.next hb
 have HI := Hq hi
 clear hb c0 c1 d0 d1 e0 e1 f0 f1
 obtain ⟨c0, c1, d0, d1, e0, e1, f0, f1⟩ := hi.cells
 clear hi
 go_wp2_with fail
 refine (HMK.out _).mono ?_
 rintro ev w4 ⟨rfl, hb⟩
 have hi := HI.out.next hb
 have HI := Hq hi
 clear hb c0 c1 d0 d1 e0 e1 f0 f1
 obtain ⟨c0, c1, d0, d1, e0, e1, f0, f1⟩ := hi.cells
 clear hi
 go_wp2
 obtain ⟨q0, q1, qb⟩ := HI.out.done (.bool u) (.string v)
 exact bodyPost_ret (v := .tuple #[.agg #[.bool u, .string v], .int .i64 rc]) (by simp [results, Tryz.results169, go_sem, q0, q1]) rfl ⟨rfl, qb⟩
theorem r02_Add_same (a b : Int) (ha : a.natAbs < 256 ^ 128) (hb : b.natAbs < 256 ^ 128) (hpq : (decide (a < 0) == decide (b < 0)) = true) (w : World) : Calls Tryz.prog 170 #[intV a, intV b] w (Ret (fitZ (a + b)) w) := by
 have HVA := Hq (r02_Valid_n a ha)
 have HVB := Hq (r02_Valid_n b hb)
 have HM := Hq (r01_Add a.natAbs b.natAbs ha hb)
 obtain ⟨k, rc, hk1, hk2⟩ := fitR_cut (a.natAbs + b.natAbs)
 have he := eq_of_beq hpq
 have hab : (a < 0 ↔ b < 0) := decide_eq_decide.1 he
 have hsg : sg (decide (a < 0)) (a.natAbs + b.natAbs) = a + b := by
  unfold sg
  by_cases h1 : a < 0
  · have := hab.1 h1
    rw [decide_eq_true h1, if_pos rfl]; omega
  · have : ¬ b < 0 := fun h => h1 (hab.2 h)
    rw [decide_eq_false h1, if_neg (by decide)]; omega
 rw [hk2 (a + b) _ (by omega) hsg]
 rw [hk1] at HM
 have HMK := Hq (r02_Make_n (decide (a < 0)) k)
 unfold intV zV at HVA HVB
 obtain ⟨p, hp⟩ : ∃ p, decide (a < 0) = p := ⟨_, rfl⟩
 obtain ⟨q, hq⟩ : ∃ q, decide (b < 0) = q := ⟨_, rfl⟩
 obtain ⟨s, hs⟩ : ∃ s, nS a.natAbs = s := ⟨_, rfl⟩
 obtain ⟨t, ht⟩ : ∃ t, nS b.natAbs = t := ⟨_, rfl⟩
 rw [hp, hs] at HVA
 rw [hq, ht] at HVB
 rw [show intV a = .agg #[.bool p, .string s] from by rw [← hp, ← hs]; rfl, show intV b = .agg #[.bool q, .string t] from by rw [← hq, ← ht]; rfl]
 rw [hp] at HMK
 rw [hp]
 rw [hp, hq] at hpq
 rw [hs, ht] at HM
 obtain ⟨kk, hkk⟩ : ∃ kk, nS k = kk := ⟨_, rfl⟩
 rw [hkk] at HM HMK
 unfold intV zV at HMK ⊢
 obtain ⟨u, hu⟩ : ∃ u, decide (sg p k < 0) = u := ⟨_, rfl⟩
 obtain ⟨v, hv⟩ : ∃ v, nS (sg p k).natAbs = v := ⟨_, rfl⟩
 rw [hu, hv] at HMK ⊢
 clear hp hq hs ht hkk hu hv hk1 hk2 hsg ha hb he hab
 go_enter Tryz.func170, Tryz.ntmps170
 have hi := I3.new w (.bool p) (.string s) (.bool q) (.string t) (.bool false) (.string ⟨#[]⟩)
 obtain ⟨W0, hW0⟩ : ∃ W0, ((w.alloc (.cells #[.bool p, .string s] 28)).alloc (.cells #[.bool q, .string t] 28)).alloc (.cells #[.bool false, .string ⟨#[]⟩] 28) = W0 := ⟨_, rfl⟩
 rw [hW0] at hi
 have HI := Hq hi
 obtain ⟨c0, c1, d0, d1, e0, e1, f0, f1⟩ := hi.cells
 clear hi
 go_wp2_with fail
 try rw [hW0]
 clear hW0
 refine (HVA.out _).mono ?_
 rintro ev w1 ⟨rfl, hb⟩
 have hi := HI.out.next hb
 have HI := Hq hi
 clear hb c0 c1 d0 d1 e0 e1 f0 f1
 obtain ⟨c0, c1, d0, d1, e0, e1, f0, f1⟩ := hi.cells
 clear hi
 go_wp2_with fail
 refine (HVB.out _).mono ?_
 rintro ev w2 ⟨rfl, hb⟩
 have hi := HI.out.next hb
 have HI := Hq hi
 clear hb c0 c1 d0 d1 e0 e1 f0 f1
 obtain ⟨c0, c1, d0, d1, e0, e1, f0, f1⟩ := hi.cells
 clear hi
 go_wp2_with fail
 refine (HM.out _).mono ?_
 rintro ev w3 ⟨rfl, hb⟩
 have hi := HI.out.next hb
 have HI := Hq hi
 clear hb c0 c1 d0 d1 e0 e1 f0 f1
 obtain ⟨c0, c1, d0, d1, e0, e1, f0, f1⟩ := hi.cells
 clear hi
 go_wp2_with fail
 refine (HMK.out _).mono ?_
 rintro ev w4 ⟨rfl, hb⟩
 have hi := HI.out.next hb
 have HI := Hq hi
 clear hb c0 c1 d0 d1 e0 e1 f0 f1
 obtain ⟨c0, c1, d0, d1, e0, e1, f0, f1⟩ := hi.cells
 clear hi
 go_wp2
 obtain ⟨q0, q1, qb⟩ := HI.out.done (.bool u) (.string v)
 exact bodyPost_ret (v := .tuple #[.agg #[.bool u, .string v], .int .i64 rc]) (by simp [results, Tryz.results170, go_sem, q0, q1]) rfl ⟨rfl, qb⟩
theorem fitZ_in {z : Int} (h : z.natAbs < 256 ^ 128) : fitZ z = .tuple #[intV z, .int .i64 0] := by unfold fitZ; rw [if_pos h]
theorem r02_Add_ge (a b : Int) (ha : a.natAbs < 256 ^ 128) (hb : b.natAbs < 256 ^ 128) (hpq : (decide (a < 0) == decide (b < 0)) = false) (hge : b.natAbs ≤ a.natAbs) (w : World) : Calls Tryz.prog 170 #[intV a, intV b] w (Ret (fitZ (a + b)) w) := by
 have HVA := Hq (r02_Valid_n a ha)
 have HVB := Hq (r02_Valid_n b hb)
 have HC := Hq (r01_Cmp a.natAbs b.natAbs ha hb)
 have hg := cmpI_nonneg hge
 have HM := Hq (r01_Sub_ge a.natAbs b.natAbs ha hb hge)
 have hab : ¬ (a < 0 ↔ b < 0) := fun h => by rw [decide_eq_decide.2 h, beq_self_eq_true] at hpq; cases hpq
 have hsg : sg (decide (a < 0)) (a.natAbs - b.natAbs) = a + b := by
  unfold sg
  by_cases h1 : a < 0
  · have : ¬ b < 0 := fun h => hab ⟨fun _ => h, fun _ => h1⟩
    rw [decide_eq_true h1, if_pos rfl]; omega
  · have : b < 0 := by
     by_cases h : b < 0
     · exact h
     · exact (hab ⟨fun h' => (h1 h').elim, fun h' => (h h').elim⟩).elim
    rw [decide_eq_false h1, if_neg (by decide)]; omega
 have HMK := Hq (r02_Make_n (decide (a < 0)) (a.natAbs - b.natAbs))
 rw [fitZ_in (by omega), ← hsg]
 obtain ⟨k, hk⟩ : ∃ k, a.natAbs - b.natAbs = k := ⟨_, rfl⟩
 obtain ⟨c, hc⟩ : ∃ c, cmpI a.natAbs b.natAbs = c := ⟨_, rfl⟩
 rw [hk] at HM HMK ⊢
 rw [hc] at HC hg
 unfold intV zV at HVA HVB
 obtain ⟨p, hp⟩ : ∃ p, decide (a < 0) = p := ⟨_, rfl⟩
 obtain ⟨q, hq⟩ : ∃ q, decide (b < 0) = q := ⟨_, rfl⟩
 obtain ⟨s, hs⟩ : ∃ s, nS a.natAbs = s := ⟨_, rfl⟩
 obtain ⟨t, ht⟩ : ∃ t, nS b.natAbs = t := ⟨_, rfl⟩
 rw [hp, hs] at HVA
 rw [hq, ht] at HVB
 rw [show intV a = .agg #[.bool p, .string s] from by rw [← hp, ← hs]; rfl, show intV b = .agg #[.bool q, .string t] from by rw [← hq, ← ht]; rfl]
 rw [hp] at HMK
 rw [hp]
 rw [hp, hq] at hpq
 rw [hs, ht] at HM HC
 obtain ⟨kk, hkk⟩ : ∃ kk, nS k = kk := ⟨_, rfl⟩
 rw [hkk] at HM HMK
 unfold intV zV at HMK ⊢
 obtain ⟨u, hu⟩ : ∃ u, decide (sg p k < 0) = u := ⟨_, rfl⟩
 obtain ⟨v, hv⟩ : ∃ v, nS (sg p k).natAbs = v := ⟨_, rfl⟩
 rw [hu, hv] at HMK ⊢
 clear hp hq hs ht hkk hu hv hk hc hsg ha hb hab hge
 go_enter Tryz.func170, Tryz.ntmps170
 have hi := I3.new w (.bool p) (.string s) (.bool q) (.string t) (.bool false) (.string ⟨#[]⟩)
 obtain ⟨W0, hW0⟩ : ∃ W0, ((w.alloc (.cells #[.bool p, .string s] 28)).alloc (.cells #[.bool q, .string t] 28)).alloc (.cells #[.bool false, .string ⟨#[]⟩] 28) = W0 := ⟨_, rfl⟩
 rw [hW0] at hi
 have HI := Hq hi
 obtain ⟨c0, c1, d0, d1, e0, e1, f0, f1⟩ := hi.cells
 clear hi
 go_wp2_with fail
 try rw [hW0]
 clear hW0
 refine (HVA.out _).mono ?_
 rintro ev w1 ⟨rfl, hb⟩
 have hi := HI.out.next hb
 have HI := Hq hi
 clear hb c0 c1 d0 d1 e0 e1 f0 f1
 obtain ⟨c0, c1, d0, d1, e0, e1, f0, f1⟩ := hi.cells
 clear hi
 go_wp2_with fail
 refine (HVB.out _).mono ?_
 rintro ev w2 ⟨rfl, hb⟩
 have hi := HI.out.next hb
 have HI := Hq hi
 clear hb c0 c1 d0 d1 e0 e1 f0 f1
 obtain ⟨c0, c1, d0, d1, e0, e1, f0, f1⟩ := hi.cells
 clear hi
 go_wp2_with fail
 refine (HC.out _).mono ?_
 rintro ev w3 ⟨rfl, hb⟩
 have hi := HI.out.next hb
 have HI := Hq hi
 clear hb c0 c1 d0 d1 e0 e1 f0 f1
 obtain ⟨c0, c1, d0, d1, e0, e1, f0, f1⟩ := hi.cells
 clear hi
 go_wp2_with fail
 refine (HM.out _).mono ?_
 rintro ev w4 ⟨rfl, hb⟩
 have hi := HI.out.next hb
 have HI := Hq hi
 clear hb c0 c1 d0 d1 e0 e1 f0 f1
 obtain ⟨c0, c1, d0, d1, e0, e1, f0, f1⟩ := hi.cells
 clear hi
 go_wp2_with fail
 refine (HMK.out _).mono ?_
 rintro ev w5 ⟨rfl, hb⟩
 have hi := HI.out.next hb
 have HI := Hq hi
 clear hb c0 c1 d0 d1 e0 e1 f0 f1
 obtain ⟨c0, c1, d0, d1, e0, e1, f0, f1⟩ := hi.cells
 clear hi
 go_wp2
 obtain ⟨q0, q1, qb⟩ := HI.out.done (.bool u) (.string v)
 exact bodyPost_ret (v := .tuple #[.agg #[.bool u, .string v], .int .i64 0]) (by simp [results, Tryz.results170, go_sem, q0, q1]) rfl ⟨rfl, qb⟩
theorem r02_Add_lt (a b : Int) (ha : a.natAbs < 256 ^ 128) (hb : b.natAbs < 256 ^ 128) (hpq : (decide (a < 0) == decide (b < 0)) = false) (hlt : a.natAbs < b.natAbs) (w : World) : Calls Tryz.prog 170 #[intV a, intV b] w (Ret (fitZ (a + b)) w) := by
 have HVA := Hq (r02_Valid_n a ha)
 have HVB := Hq (r02_Valid_n b hb)
 have HC := Hq (r01_Cmp a.natAbs b.natAbs ha hb)
 have hg : cmpI a.natAbs b.natAbs < 0 := by unfold cmpI; rw [if_pos hlt]; decide
 have HM := Hq (r01_Sub_ge b.natAbs a.natAbs hb ha (Nat.le_of_lt hlt))
 have hab : ¬ (a < 0 ↔ b < 0) := fun h => by rw [decide_eq_decide.2 h, beq_self_eq_true] at hpq; cases hpq
 have hsg : sg (decide (b < 0)) (b.natAbs - a.natAbs) = a + b := by
  unfold sg
  by_cases h1 : b < 0
  · have : ¬ a < 0 := fun h => hab ⟨fun _ => h1, fun _ => h⟩
    rw [decide_eq_true h1, if_pos rfl]; omega
  · have : a < 0 := by
     by_cases h : a < 0
     · exact h
     · exact (hab ⟨fun h' => (h h').elim, fun h' => (h1 h').elim⟩).elim
    rw [decide_eq_false h1, if_neg (by decide)]; omega
 have HMK := Hq (r02_Make_n (decide (b < 0)) (b.natAbs - a.natAbs))
 rw [fitZ_in (by omega), ← hsg]
 obtain ⟨k, hk⟩ : ∃ k, b.natAbs - a.natAbs = k := ⟨_, rfl⟩
 obtain ⟨c, hc⟩ : ∃ c, cmpI a.natAbs b.natAbs = c := ⟨_, rfl⟩
 rw [hk] at HM HMK ⊢
 rw [hc] at HC hg
 unfold intV zV at HVA HVB
 obtain ⟨p, hp⟩ : ∃ p, decide (a < 0) = p := ⟨_, rfl⟩
 obtain ⟨q, hq⟩ : ∃ q, decide (b < 0) = q := ⟨_, rfl⟩
 obtain ⟨s, hs⟩ : ∃ s, nS a.natAbs = s := ⟨_, rfl⟩
 obtain ⟨t, ht⟩ : ∃ t, nS b.natAbs = t := ⟨_, rfl⟩
 rw [hp, hs] at HVA
 rw [hq, ht] at HVB
 rw [show intV a = .agg #[.bool p, .string s] from by rw [← hp, ← hs]; rfl, show intV b = .agg #[.bool q, .string t] from by rw [← hq, ← ht]; rfl]
 rw [hq] at HMK
 rw [hq]
 rw [hp, hq] at hpq
 rw [hs, ht] at HM HC
 obtain ⟨kk, hkk⟩ : ∃ kk, nS k = kk := ⟨_, rfl⟩
 rw [hkk] at HM HMK
 unfold intV zV at HMK ⊢
 obtain ⟨u, hu⟩ : ∃ u, decide (sg q k < 0) = u := ⟨_, rfl⟩
 obtain ⟨v, hv⟩ : ∃ v, nS (sg q k).natAbs = v := ⟨_, rfl⟩
 rw [hu, hv] at HMK ⊢
 clear hp hq hs ht hkk hu hv hk hc hsg ha hb hab hlt
 go_enter Tryz.func170, Tryz.ntmps170
 have hi := I3.new w (.bool p) (.string s) (.bool q) (.string t) (.bool false) (.string ⟨#[]⟩)
 obtain ⟨W0, hW0⟩ : ∃ W0, ((w.alloc (.cells #[.bool p, .string s] 28)).alloc (.cells #[.bool q, .string t] 28)).alloc (.cells #[.bool false, .string ⟨#[]⟩] 28) = W0 := ⟨_, rfl⟩
 rw [hW0] at hi
 have HI := Hq hi
 obtain ⟨c0, c1, d0, d1, e0, e1, f0, f1⟩ := hi.cells
 clear hi
 go_wp2_with fail
 try rw [hW0]
 clear hW0
 refine (HVA.out _).mono ?_
 rintro ev w1 ⟨rfl, hb⟩
 have hi := HI.out.next hb
 have HI := Hq hi
 clear hb c0 c1 d0 d1 e0 e1 f0 f1
 obtain ⟨c0, c1, d0, d1, e0, e1, f0, f1⟩ := hi.cells
 clear hi
 go_wp2_with fail
 refine (HVB.out _).mono ?_
 rintro ev w2 ⟨rfl, hb⟩
 have hi := HI.out.next hb
 have HI := Hq hi
 clear hb c0 c1 d0 d1 e0 e1 f0 f1
 obtain ⟨c0, c1, d0, d1, e0, e1, f0, f1⟩ := hi.cells
 clear hi
 go_wp2_with fail
 refine (HC.out _).mono ?_
 rintro ev w3 ⟨rfl, hb⟩
 have hi := HI.out.next hb
 have HI := Hq hi
 clear hb c0 c1 d0 d1 e0 e1 f0 f1
 obtain ⟨c0, c1, d0, d1, e0, e1, f0, f1⟩ := hi.cells
 clear hi
 go_wp2_with fail
 refine (HM.out _).mono ?_
 rintro ev w4 ⟨rfl, hb⟩
 have hi := HI.out.next hb
 have HI := Hq hi
 clear hb c0 c1 d0 d1 e0 e1 f0 f1
 obtain ⟨c0, c1, d0, d1, e0, e1, f0, f1⟩ := hi.cells
 clear hi
 go_wp2_with fail
 refine (HMK.out _).mono ?_
 rintro ev w5 ⟨rfl, hb⟩
 have hi := HI.out.next hb
 have HI := Hq hi
 clear hb c0 c1 d0 d1 e0 e1 f0 f1
 obtain ⟨c0, c1, d0, d1, e0, e1, f0, f1⟩ := hi.cells
 clear hi
 go_wp2
 obtain ⟨q0, q1, qb⟩ := HI.out.done (.bool u) (.string v)
 exact bodyPost_ret (v := .tuple #[.agg #[.bool u, .string v], .int .i64 0]) (by simp [results, Tryz.results170, go_sem, q0, q1]) rfl ⟨rfl, qb⟩
theorem r02_Add (a b : Int) (ha : a.natAbs < 256 ^ 128) (hb : b.natAbs < 256 ^ 128) (w : World) : Calls Tryz.prog 170 #[intV a, intV b] w (Ret (fitZ (a + b)) w) := by
 cases hpq : (decide (a < 0) == decide (b < 0)) with
 | true => exact r02_Add_same a b ha hb hpq w
 | false =>
  rcases Nat.lt_or_ge a.natAbs b.natAbs with h | h
  · exact r02_Add_lt a b ha hb hpq h w
  · exact r02_Add_ge a b ha hb hpq h w
end Go.Proofs.YtndmjfkmnjejkaaGreatDoor
namespace Go.Proofs.YtndmjfkmnjejkaaGreatDoor
set_option maxRecDepth 100000
set_option maxHeartbeats 2000000
open Go.RowKit
theorem below_cell {B : Nat} {w W : World} (h : Below B w W) {a : Addr} {v : Value} (ha : a.block < B) (hc : w.cell? a = some v) : W.cell? a = some v := by
 rw [World.cell?_of_block (h.block a.block ha)]; exact hc
theorem ediv_a {z : Int} {m : Nat} (h0 : 0 < m) (hz : z < 0) (hr : z.natAbs % m = 0) : z / m = -((z.natAbs / m : Nat) : Int) := by
 have e := Nat.div_add_mod z.natAbs m
 rw [hr, Nat.add_zero] at e
 have e2 : ((m * (z.natAbs / m) : Nat) : Int) = -z := by rw [e]; omega
 rw [Int.natCast_mul] at e2
 have e3 : z = m * (-((z.natAbs / m : Nat) : Int)) := by rw [Int.mul_neg]; omega
 conv => lhs; rw [e3]
 exact Int.mul_ediv_cancel_left _ (by omega)
theorem ediv_b {z : Int} {m : Nat} (h0 : 0 < m) (hz : z < 0) (hr : 0 < z.natAbs % m) : z / m = -((z.natAbs / m + 1 : Nat) : Int) := by
 have hlt := Nat.mod_lt z.natAbs h0
 have e := Nat.div_add_mod z.natAbs m
 have e2 : ((m * (z.natAbs / m) + z.natAbs % m : Nat) : Int) = -z := by rw [e]; omega
 rw [Int.natCast_add, Int.natCast_mul] at e2
 have e3 : z = ((m - z.natAbs % m : Nat) : Int) + m * (-(z.natAbs / m : Nat) - 1) := by
  rw [Int.mul_sub, Int.mul_neg]
  omega
 conv => lhs; rw [e3]
 rw [Int.add_mul_ediv_left _ _ (by omega), Int.ediv_eq_zero_of_lt (by omega) (by omega)]
 omega
theorem ediv_c {z : Int} {m : Nat} (hz : 0 ≤ z) : z / m = ((z.natAbs / m : Nat) : Int) := by
 conv => lhs; rw [show z = (z.natAbs : Int) from by omega]
 rw [Int.natCast_ediv]
theorem intV_neg (n : Nat) : intV (-(n : Int)) = .agg #[.bool (!(nS n).toList.isEmpty), .string (nS n)] := by
 unfold intV zV
 rw [Int.natAbs_neg, Int.natAbs_natCast]
 rcases Nat.eq_zero_or_pos n with h | h
 · subst h; rw [show (nS 0).toList.isEmpty = true from sempty_true rfl]; rfl
 · rw [empty_nS h, decide_eq_true (by omega)]; rfl
theorem r02_DivModQ (z : Int) (m : Nat) (hz : z.natAbs < 256 ^ 100) (hm : m < 256 ^ 128) (h0 : 0 < m) (w : World) : Calls Tryz.prog 149 #[intV z, intV m] w (Ret (.tuple #[intV (z / m), .string (nS (z % m).toNat), .int .i64 0]) w) := by
 have hz100 := hz
 have hz : z.natAbs < 256 ^ 128 := Nat.lt_of_lt_of_le hz (Nat.pow_le_pow_right (by omega) (by omega))
 have HVZ := Hq (r02_Valid_n z hz)
 have HVM := Hq (r02_Valid_n m (by rw [Int.natAbs_natCast]; exact hm))
 have HD := Hq (r01_DivMod z.natAbs m hz hm h0)
 have HOF := Hq (r01_Of 1 (by decide))
 have hqq : z.natAbs / m < 256 ^ 128 := Nat.lt_of_le_of_lt (Nat.div_le_self _ _) hz
 have hrr : z.natAbs % m < 256 ^ 128 := Nat.lt_trans (Nat.mod_lt _ h0) hm
 have HAD := Hq (r01_Add (z.natAbs / m) 1 hqq (by decide))
 have HSB := Hq (r01_Sub_ge m (z.natAbs % m) hm hrr (Nat.le_of_lt (Nat.mod_lt _ h0)))
 have HMK := Hq r02_Make
 have hmm := empty_nS h0
 have ed : decide ((m : Int) < 0) = false := decide_eq_false (Int.not_lt.2 (Int.natCast_nonneg _))
 have HQV1 := Hq (fun (h1 : z < 0) (h2 : z.natAbs % m = 0) => ediv_a h0 h1 h2)
 have HQV2 := Hq (fun (h1 : z < 0) (h2 : 0 < z.natAbs % m) => ediv_b h0 h1 h2)
 have HQV3 := Hq (fun (h1 : 0 ≤ z) => ediv_c (m := m) h1)
 have HRES := Hq (show ∃ Q, intV (z / m) = Q from ⟨_, rfl⟩)
 obtain ⟨Q, hQ⟩ := HRES.out
 rw [hQ]
 have HQQ := Hq hQ
 unfold intV zV at HVZ HVM
 unfold intV zV
 rw [ed, Int.natAbs_natCast] at HVM
 rw [ed, Int.natAbs_natCast]
 obtain ⟨t, ht⟩ : ∃ t, nS m = t := ⟨_, rfl⟩
 obtain ⟨s, hs⟩ : ∃ s, nS z.natAbs = s := ⟨_, rfl⟩
 obtain ⟨q, hq⟩ : ∃ q, nS (z.natAbs / m) = q := ⟨_, rfl⟩
 have hn100 : z.natAbs / m + 1 < 256 ^ 128 := by
  have h1 : z.natAbs / m ≤ z.natAbs := Nat.div_le_self _ _
  have h2 : (256 : Nat) ^ 100 < 256 ^ 128 := Nat.pow_lt_pow_right (by omega) (by omega)
  omega
 have hfq0 : fitR (z.natAbs / m + 1) = .tuple #[.string (nS (z.natAbs / m + 1)), .int .i64 0] := by unfold fitR; rw [if_pos hn100]
 obtain ⟨fq, hfq⟩ : ∃ fq, nS (z.natAbs / m + 1) = fq := ⟨_, rfl⟩
 rw [hfq0, hfq] at HAD
 rw [ht] at HVM HD HSB hmm ⊢
 rw [hs] at HVZ HD ⊢
 rw [hq] at HD HAD
 rw [show bstr (encN 1) = ⟨#[1]⟩ from rfl, show ((1 : Nat) : Int) = 1 from rfl] at HOF
 rw [nS_one] at HAD
 obtain ⟨W0, hW0⟩ : ∃ W0, ((w.alloc (.cells #[.bool (decide (z < 0)), .string s] 28)).alloc (.cells #[.bool false, .string t] 28)).alloc (.cells #[.bool false, .string ⟨#[]⟩] 28) = W0 := ⟨_, rfl⟩
 have HZX0 := Hq (show Bx2 W0 w.heap.size (.bool (decide (z < 0))) (.string s) 28 from by
  rw [← hW0]
  exact ((Bx2.new w _ _ _).next ((Below.refl _ _).alloc (Nat.le_refl _) _)).next ((Below.refl _ _).alloc (Nat.le_refl _) _))
 have HMX0 := Hq (show Bx2 W0 (w.heap.size + 1) (.bool false) (.string t) 28 from by
  rw [← hW0]
  have := Bx2.new (w.alloc (.cells #[.bool (decide (z < 0)), .string s] 28)) (.bool false) (.string t) 28
  rw [World.size_alloc] at this
  exact this.next ((Below.refl _ _).alloc (Nat.le_refl _) _))
 have HRX0 := Hq (show Bx2 W0 (w.heap.size + 1 + 1) (.bool false) (.string ⟨#[]⟩) 28 from by
  rw [← hW0]
  have := Bx2.new ((w.alloc (.cells #[.bool (decide (z < 0)), .string s] 28)).alloc (.cells #[.bool false, .string t] 28)) (.bool false) (.string ⟨#[]⟩) 28
  rw [World.size_alloc, World.size_alloc] at this
  exact this)
 have HB0 := Hq (show Below w.heap.size w W0 from by
  rw [← hW0]
  exact (((Below.refl w.heap.size w).alloc (Nat.le_refl _) _).alloc (by simp) _).alloc (by simp; omega) _)
 by_cases hneg : z < 0
 · have hd : decide (z < 0) = true := decide_eq_true hneg
   rw [hd] at HVZ HZX0 hW0 ⊢
   by_cases hr : z.natAbs % m = 0
   · have HRR := Hq (emod_of_zero hr)
     have HQE := Hq (show Q = .agg #[.bool (!q.toList.isEmpty), .string q] from by rw [← HQQ.out, HQV1.out hneg hr, intV_neg, hq])
     rw [hr, nS_zero] at HD
     clear hs ht hq hfq hQ hn100 hfq0 hz100 hd hr hneg hqq hrr HAD HSB HOF ed hz hm h0
     go_enter Tryz.func149, Tryz.ntmps149
     have c0 := HZX0.out.c0
     have c1 := HZX0.out.c1
     have d0 := HMX0.out.c0
     have d1 := HMX0.out.c1
     go_wp2_with fail
     try rw [hW0]
     clear hW0
     refine (HVZ.out _).mono ?_
     rintro ev w1 ⟨rfl, hb1⟩
     have HZX1 := Hq (HZX0.out.next hb1)
     have HMX1 := Hq (HMX0.out.next hb1)
     have HRX1 := Hq (HRX0.out.next hb1)
     have HB1 := Hq (HB0.out.trans (hb1.mono HB0.out.size))
     clear hb1
     clear c0 c1 d0 d1
     have c0 := HZX1.out.c0
     have c1 := HZX1.out.c1
     have d0 := HMX1.out.c0
     have d1 := HMX1.out.c1
     go_wp2_with fail
     refine (HVM.out _).mono ?_
     rintro ev w2 ⟨rfl, hb2⟩
     have HZX2 := Hq (HZX1.out.next hb2)
     have HMX2 := Hq (HMX1.out.next hb2)
     have HRX2 := Hq (HRX1.out.next hb2)
     have HB2 := Hq (HB1.out.trans (hb2.mono HB1.out.size))
     clear hb2
     clear c0 c1 d0 d1
     have c0 := HZX2.out.c0
     have c1 := HZX2.out.c1
     have d0 := HMX2.out.c0
     have d1 := HMX2.out.c1
     go_wp2_with fail
     refine (HD.out _).mono ?_
     rintro ev w3 ⟨rfl, hb3⟩
     have HZX3 := Hq (HZX2.out.next hb3)
     have HMX3 := Hq (HMX2.out.next hb3)
     have HRX3 := Hq (HRX2.out.next hb3)
     have HB3 := Hq (HB2.out.trans (hb3.mono HB2.out.size))
     clear hb3
     clear c0 c1 d0 d1
     have c0 := HZX3.out.c0
     have c1 := HZX3.out.c1
     have d0 := HMX3.out.c0
     have d1 := HMX3.out.c1
     go_wp2_with fail
     refine (HMK.out _ _ _).mono ?_
     rintro ev w9 ⟨rfl, hb9⟩
     have HR9 := Hq (HRX3.out.next hb9)
     have HB9 := Hq (HB3.out.trans (hb9.mono HB3.out.size))
     clear hb9
     have rf0 := HR9.out.f0
     have rf1 := HR9.out.f1
     have rc0 := HR9.out.c0
     have rc1 := HR9.out.c1
     unfold zV
     go_wp2
     obtain ⟨q0, q1⟩ : _ ∧ _ := ⟨(HR9.out.set2 (u := .bool (!q.toList.isEmpty)) (v := .string q)).c0, (HR9.out.set2 (u := .bool (!q.toList.isEmpty)) (v := .string q)).c1⟩
     refine bodyPost_ret (v := .tuple #[.agg #[.bool (!q.toList.isEmpty), .string q], .string ⟨#[]⟩, .int .i64 0]) ?_ rfl ⟨by rw [HRR.out, nS_zero, HQE.out], ?_⟩
     · simp [results, Tryz.results149, go_sem, q0, q1]
     · exact (HB9.out.setCell (p := ⟨w.heap.size + 1 + 1, 0, none⟩) (by simp only []; omega) _).setCell (p := ⟨w.heap.size + 1 + 1, 1, none⟩) (by simp only []; omega) _
   · have HRR := Hq (emod_of_neg h0 hneg (by omega))
     have HQE := Hq (show Q = .agg #[.bool (!fq.toList.isEmpty), .string fq] from by rw [← HQQ.out, HQV2.out hneg (by omega), intV_neg, hfq])
     have her := empty_nS (n := z.natAbs % m) (by omega)
     obtain ⟨r, hr'⟩ : ∃ r, nS (z.natAbs % m) = r := ⟨_, rfl⟩
     obtain ⟨r2, hr2⟩ : ∃ r2, nS (m - z.natAbs % m) = r2 := ⟨_, rfl⟩
     rw [hr'] at HD HSB her
     rw [hr2] at HSB
     have HR2 := Hq hr2
     clear hs ht hq hfq hQ hn100 hfq0 hz100 hd hr hneg hqq hrr ed hz hm h0 hr' hr2
     go_enter Tryz.func149, Tryz.ntmps149
     have c0 := HZX0.out.c0
     have c1 := HZX0.out.c1
     have d0 := HMX0.out.c0
     have d1 := HMX0.out.c1
     go_wp2_with fail
     try rw [hW0]
     clear hW0
     refine (HVZ.out _).mono ?_
     rintro ev w1 ⟨rfl, hb1⟩
     have HZX1 := Hq (HZX0.out.next hb1)
     have HMX1 := Hq (HMX0.out.next hb1)
     have HRX1 := Hq (HRX0.out.next hb1)
     have HB1 := Hq (HB0.out.trans (hb1.mono HB0.out.size))
     clear hb1
     clear c0 c1 d0 d1
     have c0 := HZX1.out.c0
     have c1 := HZX1.out.c1
     have d0 := HMX1.out.c0
     have d1 := HMX1.out.c1
     go_wp2_with fail
     refine (HVM.out _).mono ?_
     rintro ev w2 ⟨rfl, hb2⟩
     have HZX2 := Hq (HZX1.out.next hb2)
     have HMX2 := Hq (HMX1.out.next hb2)
     have HRX2 := Hq (HRX1.out.next hb2)
     have HB2 := Hq (HB1.out.trans (hb2.mono HB1.out.size))
     clear hb2
     clear c0 c1 d0 d1
     have c0 := HZX2.out.c0
     have c1 := HZX2.out.c1
     have d0 := HMX2.out.c0
     have d1 := HMX2.out.c1
     go_wp2_with fail
     refine (HD.out _).mono ?_
     rintro ev w3 ⟨rfl, hb3⟩
     have HZX3 := Hq (HZX2.out.next hb3)
     have HMX3 := Hq (HMX2.out.next hb3)
     have HRX3 := Hq (HRX2.out.next hb3)
     have HB3 := Hq (HB2.out.trans (hb3.mono HB2.out.size))
     clear hb3
     clear c0 c1 d0 d1
     have c0 := HZX3.out.c0
     have c1 := HZX3.out.c1
     have d0 := HMX3.out.c0
     have d1 := HMX3.out.c1
     go_wp2_with fail
     refine (HOF.out _).mono ?_
     rintro ev w4 ⟨rfl, hb4⟩
     have HZX4 := Hq (HZX3.out.next hb4)
     have HMX4 := Hq (HMX3.out.next hb4)
     have HRX4 := Hq (HRX3.out.next hb4)
     have HB4 := Hq (HB3.out.trans (hb4.mono HB3.out.size))
     clear hb4
     clear c0 c1 d0 d1
     have c0 := HZX4.out.c0
     have c1 := HZX4.out.c1
     have d0 := HMX4.out.c0
     have d1 := HMX4.out.c1
     go_wp2_with fail
     refine (HAD.out _).mono ?_
     rintro ev w5 ⟨rfl, hb5⟩
     have HZX5 := Hq (HZX4.out.next hb5)
     have HMX5 := Hq (HMX4.out.next hb5)
     have HRX5 := Hq (HRX4.out.next hb5)
     have HB5 := Hq (HB4.out.trans (hb5.mono HB4.out.size))
     clear hb5
     clear c0 c1 d0 d1
     have c0 := HZX5.out.c0
     have c1 := HZX5.out.c1
     have d0 := HMX5.out.c0
     have d1 := HMX5.out.c1
     go_wp2_with fail
     refine (HSB.out _).mono ?_
     rintro ev w6 ⟨rfl, hb6⟩
     have HZX6 := Hq (HZX5.out.next hb6)
     have HMX6 := Hq (HMX5.out.next hb6)
     have HRX6 := Hq (HRX5.out.next hb6)
     have HB6 := Hq (HB5.out.trans (hb6.mono HB5.out.size))
     clear hb6
     clear c0 c1 d0 d1
     have c0 := HZX6.out.c0
     have c1 := HZX6.out.c1
     have d0 := HMX6.out.c0
     have d1 := HMX6.out.c1
     go_wp2_with fail
     refine (HMK.out _ _ _).mono ?_
     rintro ev w9 ⟨rfl, hb9⟩
     have HR9 := Hq (HRX6.out.next hb9)
     have HB9 := Hq (HB6.out.trans (hb9.mono HB6.out.size))
     clear hb9
     have rf0 := HR9.out.f0
     have rf1 := HR9.out.f1
     have rc0 := HR9.out.c0
     have rc1 := HR9.out.c1
     unfold zV
     go_wp2
     obtain ⟨q0, q1⟩ : _ ∧ _ := ⟨(HR9.out.set2 (u := .bool (!fq.toList.isEmpty)) (v := .string fq)).c0, (HR9.out.set2 (u := .bool (!fq.toList.isEmpty)) (v := .string fq)).c1⟩
     refine bodyPost_ret (v := .tuple #[.agg #[.bool (!fq.toList.isEmpty), .string fq], .string r2, .int .i64 0]) ?_ rfl ⟨by rw [HRR.out, HR2.out, HQE.out], ?_⟩
     · simp [results, Tryz.results149, go_sem, q0, q1]
     · exact (HB9.out.setCell (p := ⟨w.heap.size + 1 + 1, 0, none⟩) (by simp only []; omega) _).setCell (p := ⟨w.heap.size + 1 + 1, 1, none⟩) (by simp only []; omega) _
 · have hd : decide (z < 0) = false := decide_eq_false hneg
   rw [hd] at HVZ HZX0 hW0 ⊢
   have HRR := Hq (emod_of_pos (z := z) (m := m) (by omega))
   have HQE := Hq (show Q = .agg #[.bool false, .string q] from by rw [← HQQ.out, HQV3.out (by omega), ← hq]; unfold intV zV; rw [decide_eq_false (Int.not_lt.2 (Int.natCast_nonneg _)), Int.natAbs_natCast])
   obtain ⟨r, hr'⟩ : ∃ r, nS (z.natAbs % m) = r := ⟨_, rfl⟩
   rw [hr'] at HD
   have HR2 := Hq hr'
   clear hs ht hq hfq hQ hn100 hfq0 hz100 hd hneg hqq hrr HAD HSB HOF ed hz hm h0 hr'
   go_enter Tryz.func149, Tryz.ntmps149
   have c0 := HZX0.out.c0
   have c1 := HZX0.out.c1
   have d0 := HMX0.out.c0
   have d1 := HMX0.out.c1
   go_wp2_with fail
   try rw [hW0]
   clear hW0
   refine (HVZ.out _).mono ?_
   rintro ev w1 ⟨rfl, hb1⟩
   have HZX1 := Hq (HZX0.out.next hb1)
   have HMX1 := Hq (HMX0.out.next hb1)
   have HRX1 := Hq (HRX0.out.next hb1)
   have HB1 := Hq (HB0.out.trans (hb1.mono HB0.out.size))
   clear hb1
   clear c0 c1 d0 d1
   have c0 := HZX1.out.c0
   have c1 := HZX1.out.c1
   have d0 := HMX1.out.c0
   have d1 := HMX1.out.c1
   go_wp2_with fail
   refine (HVM.out _).mono ?_
   rintro ev w2 ⟨rfl, hb2⟩
   have HZX2 := Hq (HZX1.out.next hb2)
   have HMX2 := Hq (HMX1.out.next hb2)
   have HRX2 := Hq (HRX1.out.next hb2)
   have HB2 := Hq (HB1.out.trans (hb2.mono HB1.out.size))
   clear hb2
   clear c0 c1 d0 d1
   have c0 := HZX2.out.c0
   have c1 := HZX2.out.c1
   have d0 := HMX2.out.c0
   have d1 := HMX2.out.c1
   go_wp2_with fail
   refine (HD.out _).mono ?_
   rintro ev w3 ⟨rfl, hb3⟩
   have HZX3 := Hq (HZX2.out.next hb3)
   have HMX3 := Hq (HMX2.out.next hb3)
   have HRX3 := Hq (HRX2.out.next hb3)
   have HB3 := Hq (HB2.out.trans (hb3.mono HB2.out.size))
   clear hb3
   clear c0 c1 d0 d1
   have c0 := HZX3.out.c0
   have c1 := HZX3.out.c1
   have d0 := HMX3.out.c0
   have d1 := HMX3.out.c1
   go_wp2_with fail
   refine (HMK.out _ _ _).mono ?_
   rintro ev w9 ⟨rfl, hb9⟩
   have HR9 := Hq (HRX3.out.next hb9)
   have HB9 := Hq (HB3.out.trans (hb9.mono HB3.out.size))
   clear hb9
   have rf0 := HR9.out.f0
   have rf1 := HR9.out.f1
   have rc0 := HR9.out.c0
   have rc1 := HR9.out.c1
   unfold zV
   go_wp2
   obtain ⟨q0, q1⟩ : _ ∧ _ := ⟨(HR9.out.set2 (u := .bool (false)) (v := .string q)).c0, (HR9.out.set2 (u := .bool (false)) (v := .string q)).c1⟩
   refine bodyPost_ret (v := .tuple #[.agg #[.bool (false), .string q], .string r, .int .i64 0]) ?_ rfl ⟨by rw [HRR.out, HR2.out, HQE.out], ?_⟩
   · simp [results, Tryz.results149, go_sem, q0, q1]
   · exact (HB9.out.setCell (p := ⟨w.heap.size + 1 + 1, 0, none⟩) (by simp only []; omega) _).setCell (p := ⟨w.heap.size + 1 + 1, 1, none⟩) (by simp only []; omega) _
theorem r02_Of (n : Nat) (hn : n < 1000) (w : World) : Calls Tryz.prog 167 #[.int .i64 n] w (Ret (intV n) w) := by
 have HO := Hq (r01_Of n (by omega))
 have HM := Hq (r02_Make_n false n)
 rw [show sg false n = (n : Int) from rfl] at HM
 have HO' := Hq (fun w => show Calls Tryz.prog 101 #[.int .u64 n] w (Ret (.string (nS n)) w) from HO.out w)
 have HB0 := Hq ((Below.refl w.heap.size w).alloc (Nat.le_refl _) (.cells #[.bool false, .string ⟨#[]⟩] 28))
 have HX0 := Hq (Bx2.new w (.bool false) (.string ⟨#[]⟩) 28)
 unfold intV zV at HM ⊢
 obtain ⟨s, hs⟩ : ∃ s, nS n = s := ⟨_, rfl⟩
 obtain ⟨u, hu⟩ : ∃ u, decide ((n : Int) < 0) = u := ⟨_, rfl⟩
 obtain ⟨v, hv⟩ : ∃ v, nS ((n : Int)).natAbs = v := ⟨_, rfl⟩
 rw [hs] at HO' HM
 rw [hu, hv] at HM ⊢
 have hn0 : ¬ ((n : Int) < 0) := by omega
 clear hs hv HO
 go_enter Tryz.func167, Tryz.ntmps167
 go_wp2_with fail
 refine (HO'.out _).mono ?_
 rintro e w1 ⟨rfl, hb1⟩
 have HX1 := Hq (HX0.out.next hb1)
 have HB1 := Hq (HB0.out.trans (hb1.mono HB0.out.size))
 clear hb1
 go_wp2_with fail
 refine (HM.out _).mono ?_
 rintro e w2 ⟨rfl, hb2⟩
 have hX := HX1.out.next hb2
 have HX2 := Hq hX
 have HB2 := Hq (HB1.out.trans (hb2.mono HB1.out.size))
 have c0 := hX.c0
 have c1 := hX.c1
 have f0 := hX.f0
 have f1 := hX.f1
 clear hb2 hX
 go_wp2
 have hY := HX2.out.set2 (u := .bool u) (v := .string v)
 have q0 := hY.c0
 have q1 := hY.c1
 exact bodyPost_ret (v := .agg #[.bool u, .string v]) (by simp [results, Tryz.results167, go_sem, q0, q1]) rfl ⟨rfl, (HB2.out.setCell (p := ⟨w.heap.size, 0, none⟩) (Nat.le_refl _) _).setCell (p := ⟨w.heap.size, 1, none⟩) (Nat.le_refl _) _⟩
theorem r02_Sub (a b : Int) (ha : a.natAbs < 256 ^ 128) (hb : b.natAbs < 256 ^ 128) (hin : (a - b).natAbs < 256 ^ 128) (w : World) : Calls Tryz.prog 204 #[intV a, intV b] w (Ret (.tuple #[intV (a - b), .int .i64 0]) w) := by
 have HVA := Hq (r02_Valid_n a ha)
 have HVB := Hq (r02_Valid_n b hb)
 have HN := Hq (r02_Neg b hb)
 have HM := Hq (r02_Add a (-b) ha (by rw [Int.natAbs_neg]; exact hb))
 rw [fitZ_in (by rw [← Int.sub_eq_add_neg]; exact hin), ← Int.sub_eq_add_neg] at HM
 obtain ⟨nb, hnb⟩ : ∃ nb, intV (-b) = nb := ⟨_, rfl⟩
 rw [hnb] at HN HM
 unfold intV zV at HVA HVB
 obtain ⟨p, hp⟩ : ∃ p, decide (a < 0) = p := ⟨_, rfl⟩
 obtain ⟨q, hq⟩ : ∃ q, decide (b < 0) = q := ⟨_, rfl⟩
 obtain ⟨s, hs⟩ : ∃ s, nS a.natAbs = s := ⟨_, rfl⟩
 obtain ⟨t, ht⟩ : ∃ t, nS b.natAbs = t := ⟨_, rfl⟩
 rw [hp, hs] at HVA
 rw [hq, ht] at HVB
 rw [show intV a = .agg #[.bool p, .string s] from by rw [← hp, ← hs]; rfl, show intV b = .agg #[.bool q, .string t] from by rw [← hq, ← ht]; rfl]
 rw [show intV a = .agg #[.bool p, .string s] from by rw [← hp, ← hs]; rfl] at HM
 rw [show intV b = .agg #[.bool q, .string t] from by rw [← hq, ← ht]; rfl] at HN
 unfold intV zV at HM hnb ⊢
 obtain ⟨u, hu⟩ : ∃ u, decide (a - b < 0) = u := ⟨_, rfl⟩
 obtain ⟨v, hv⟩ : ∃ v, nS (a - b).natAbs = v := ⟨_, rfl⟩
 obtain ⟨nu, hnu⟩ : ∃ u, decide (-b < 0) = u := ⟨_, rfl⟩
 obtain ⟨nv, hnv⟩ : ∃ v, nS (-b).natAbs = v := ⟨_, rfl⟩
 rw [hu, hv] at HM ⊢
 rw [hnu, hnv] at hnb
 subst hnb
 clear hp hq hs ht hu hv hnu hnv ha hb hin
 go_enter Tryz.func204, Tryz.ntmps204
 have hi := I3.new w (.bool p) (.string s) (.bool q) (.string t) (.bool false) (.string ⟨#[]⟩)
 obtain ⟨W0, hW0⟩ : ∃ W0, ((w.alloc (.cells #[.bool p, .string s] 28)).alloc (.cells #[.bool q, .string t] 28)).alloc (.cells #[.bool false, .string ⟨#[]⟩] 28) = W0 := ⟨_, rfl⟩
 rw [hW0] at hi
 have HI := Hq hi
 obtain ⟨c0, c1, d0, d1, e0, e1, f0, f1⟩ := hi.cells
 clear hi
 go_wp2_with fail
 try rw [hW0]
 clear hW0
 refine (HVA.out _).mono ?_
 rintro ev w1 ⟨rfl, hb⟩
 have hi := HI.out.next hb
 have HI := Hq hi
 clear hb c0 c1 d0 d1 e0 e1 f0 f1
 obtain ⟨c0, c1, d0, d1, e0, e1, f0, f1⟩ := hi.cells
 clear hi
 go_wp2_with fail
 refine (HVB.out _).mono ?_
 rintro ev w2 ⟨rfl, hb⟩
 have hi := HI.out.next hb
 have HI := Hq hi
 clear hb c0 c1 d0 d1 e0 e1 f0 f1
 obtain ⟨c0, c1, d0, d1, e0, e1, f0, f1⟩ := hi.cells
 clear hi
 go_wp2
 have c0' : w2.drew.cell? ⟨w.heap.size, 0, none⟩ = some (.bool p) := c0
 have c1' : w2.drew.cell? ⟨w.heap.size, 1, none⟩ = some (.string s) := c1
 have d0' : w2.drew.cell? ⟨w.heap.size + 1, 0, none⟩ = some (.bool q) := d0
 have d1' : w2.drew.cell? ⟨w.heap.size + 1, 1, none⟩ = some (.string t) := d1
 have hid := HI.out.next (Below.refl w2.heap.size w2).drew
 have HID := Hq hid
 clear c0 c1 d0 d1 e0 e1 f0 f1 hid
 have HLE := Hq (show w.heap.size + 1 + 1 ≤ w2.drew.heap.size from Nat.le_of_lt HID.out.2.2.1.lt)
 refine wp_region_K 8 (Below (w.heap.size + 1 + 1) w2.drew) (by kernel_rfl) ?_
 intro hD
 have KK1 := Hq (fun w' (hS' : (Below (w.heap.size + 1 + 1) w2.drew) w') => And.intro (below_cell hS' (by simp only []; omega) c0') (And.intro (below_cell hS' (by simp only []; omega) c1') (And.intro (below_cell hS' (by simp only []; omega) d0') (below_cell hS' (by simp only []; omega) d1'))))
 refine rT 0 15 7 rfl hD (Below.refl _ _) (by intro w' hS'; obtain ⟨e0, e1, e2, e3⟩ := KK1.out w' hS'; go_simp; with_reducible rfl) ?_; clear hD; intro hD; simp only [Act.put, sqA, sqB, sqC]
 refine rT 1 16 6 rfl hD (Below.refl _ _) (by intro w' hS'; obtain ⟨e0, e1, e2, e3⟩ := KK1.out w' hS'; go_simp; with_reducible rfl) ?_; clear hD; intro hD; simp only [Act.put, sqA, sqB, sqC]
 refine rO 2 5 rfl hD ?_; clear hD; intro K2 hK2
 go_wp2_with fail
 refine (HN.out _).mono ?_
 rintro ev w3 ⟨rfl, hb⟩
 have HID3 := Hq (HID.out.next hb)
 have HB2 := Hq hb
 clear hb
 go_wp2
 refine hK2 _ _ (by exact HB2.out.mono HLE.out) ?_; clear hK2; intro hS_3_2 hD
 refine rO 3 4 rfl hD ?_; clear hD; intro K3 hK3
 go_wp2_with fail
 refine (HM.out _).mono ?_
 rintro ev w4 ⟨rfl, hb⟩
 have hi4 := HID3.out.next hb
 have HID4 := Hq hi4
 have HB3 := Hq hb
 have HLE3 := Hq (Nat.le_of_lt HID3.out.2.2.1.lt)
 obtain ⟨_, _, _, _, e0, e1, f0, f1⟩ := hi4.cells
 clear hb hi4
 go_wp2
 refine hK3 _ _ (by exact Below.trans hS_3_2 (HB3.out.mono HLE3.out)) ?_; clear hK3; intro hS_3_3 hD
 refine rP 4 19 3 rfl hD hS_3_3 ?_; clear hD; intro hD; simp only [Act.put, sqA, sqB, sqC]
 refine rP 5 20 2 rfl hD hS_3_3 ?_; clear hD; intro hD; simp only [Act.put, sqA, sqB, sqC]
 refine rO 6 1 rfl hD ?_; clear hD; intro K6 hK6
 go_wp2
 refine hK6 _ _ (by exact (Below.setCell hS_3_3 (p := ⟨w.heap.size + 1 + 1, 0, none⟩) (Nat.le_refl _) _).setCell (p := ⟨w.heap.size + 1 + 1, 1, none⟩) (Nat.le_refl _) _) ?_; clear hK6; intro hS_3_6 hD
 refine rO 7 0 rfl hD ?_; clear hD; intro K7 hK7
 go_wp2
 refine hK7 _ _ (by exact hS_3_6) ?_; clear hK7; intro hS_3_7 hD
 refine wpAnyK_done (by kernel_rfl) ?_ 0
 clear hD
 obtain ⟨q0, q1, qb⟩ := HID4.out.done (.bool u) (.string v)
 go_wp2
 exact bodyPost_ret (v := .tuple #[.agg #[.bool u, .string v], .int .i64 0]) (by simp [results, Tryz.results204, go_sem, q0, q1]) rfl ⟨rfl, qb⟩
end Go.Proofs.YtndmjfkmnjejkaaGreatDoor
namespace Go.Proofs.YtndmjfkmnjejkaaGreatDoor
open Go.RowKit
def GIz (W0 : World) (cs : Array Value) (T : TypeId) (b : Bool) (x : Value) (w : World) : Prop :=
 Below W0.heap.size W0 w ∧ (b = true → ∃ B, x = .pointer (some ⟨B, 0, none⟩) ∧ W0.heap.size ≤ B ∧ w.heap[B]? = some (.cells cs T (0, 0)))
theorem GIz.start {W0 : World} {cs : Array Value} {T : TypeId} {x : Value} {w : World} (h : Below W0.heap.size W0 w) : GIz W0 cs T false x w := ⟨h, fun e => by cases e⟩
theorem GIz.step {W0 w w' : World} {cs : Array Value} {T : TypeId} {b : Bool} {x : Value} (h : GIz W0 cs T b x w) (hb : Below w.heap.size w w') : GIz W0 cs T b x w' := by
 refine ⟨h.1.trans (hb.mono h.1.size), fun e => ?_⟩
 obtain ⟨B, rfl, hB, hz⟩ := h.2 e
 exact ⟨B, rfl, hB, (hb.block B (block_lt hz)).trans hz⟩
theorem alloc_zK {P : Program} {ops : Array Oper} {o : Oper} {a : Act} {Q : Exit → Act → World → Prop} {d : Tmp} {cs : Array Value} {T : TypeId} (hg : o.guard = none) (hd : o.dst = some d) (hop : ∀ (w : World) (ρ : Operand → Value), (execOp ρ o).run P w = .ok (.value (.pointer (some ⟨w.heap.size, 0, none⟩))) (w.alloc (.cells cs T))) {W0 : World} :
 ∀ w, GIz W0 cs T false undef w → ∀ K : Act → World → Prop, (∀ x w', GIz W0 cs T true x w' → K (a.put (some d) x) w') → wpList P ops (EndK K Q) [o] a w := fun w h K hK =>
 Great.wpList_allocTo hg (some d) hd _ _ (hop w a.eval) (hK _ _ ⟨h.1.alloc h.1.size _, fun _ => ⟨_, rfl, h.1.size, heap_alloc_new _ _⟩⟩)
end Go.Proofs.YtndmjfkmnjejkaaGreatDoor

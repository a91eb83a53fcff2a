import Derived.Test.YtndmjfkmnjejkaaGreatDoorQCoC
import Derived.Test.YtndmjfkmnjejkaaGreatDoorQPeG
import Derived.Test.YtndmjfkmnjejkaaGreatDoorQPeT
import Derived.Test.YtndmjfkmnjejkaaGreatDoorQLdF
import Derived.Test.YtndmjfkmnjejkaaGreatDoorQPwR
import Derived.Test.YtndmjfkmnjejkaaGreatDoorQPeC
import Derived.Test.YtndmjfkmnjejkaaGreatDoorQOpU
import Derived.Deep.Cut
import Derived.Test.YtndmjfkmnjejkaaGreatDoorQOvr
set_option linter.unusedVariables false
set_option linter.unusedSimpArgs false
namespace Go.Proofs.YtndmjfkmnjejkaaGreatDoor
set_option maxRecDepth 100000
set_option maxHeartbeats 4000000
open Go.RowKit
theorem tpN_err {e : Int} (h : ¬ e = 0) (l : List ByteArray) (s : ByteArray) (k : Int) : tpN e l s k = ([], ⟨#[]⟩, 0) := if_neg h
theorem SlN.setB {W : World} {A : Option Addr} {n c R k : Nat} {l : List ByteArray} {u : Value} (h : SlN W A n c l) (hf : ∀ b o, A = some ⟨b, o, none⟩ → R < b) : SlN (W.setCell ⟨R, k, none⟩ u) A n c l := by
 obtain ⟨h1, h2, h3, b, o, h4, h5⟩ := h
 refine ⟨h1, h2, h3, b, o, h4, fun j s hj => ?_⟩
 have hlt := (List.getElem?_eq_some_iff.1 hj).1
 have hb := hf b o (h4 (by omega))
 have e : (W.setCell ⟨R, k, none⟩ u).heap[b]? = W.heap[b]? := heap_setCell_other _ _ _ _ (by simp; omega)
 have := h5 j s hj
 unfold World.cell? at this ⊢
 rw [e]
 exact this
theorem co_Below_of (l : List ByteArray) (s : ByteArray) (k : Int) (N : ByteArray) (A : Option Addr) (n cap : Nat) (hp : ∀ x ∈ l, x.size ≤ 9223372036854775807) (hN : N.size ≤ 9223372036854775807) (w : World)
 (hd : tpG l k = true → nvalid N = true → N.toList.isEmpty = false → ∀ W, Below w.heap.size w W → SlN W A n cap l → Calls Tryz.prog 97 #[tpV A n cap s k, .string N] W (RetC (dwN l s k (num N)) (tpN (dwN l s k (num N)).2 l s k) W)) (hs : SlN w A n cap l) :
 Calls Tryz.prog 49 #[tpV A n cap s k, .string N] w (RetC (coN l s k N) (tpN (coN l s k N).2 l s k) w) := by
 have HRD := Hq (fun W hs => co_ready l s k N A n cap W hs hp hN)
 have HD := Hq hd
 clear hd
 have hb1 := ((Below.refl w.heap.size w).alloc (Nat.le_refl _) (.cells #[.slice A n cap, .string s, .int .i64 k] 31)).alloc (by simp) (.cells #[.slice none 0 0, .string ⟨#[]⟩, .int .i64 0] 31)
 have ht1 : TB ((w.alloc (.cells #[.slice A n cap, .string s, .int .i64 k] 31)).alloc (.cells #[.slice none 0 0, .string ⟨#[]⟩, .int .i64 0] 31)) w.heap.size A n cap s k := (TB.new w A n cap s k).nextT ((Below.refl _ _).alloc (Nat.le_refl _) _)
 have hr1 : TB ((w.alloc (.cells #[.slice A n cap, .string s, .int .i64 k] 31)).alloc (.cells #[.slice none 0 0, .string ⟨#[]⟩, .int .i64 0] 31)) (w.heap.size + 1) none 0 0 ⟨#[]⟩ 0 := by
  have := TB.new (w.alloc (.cells #[.slice A n cap, .string s, .int .i64 k] 31)) none 0 0 ⟨#[]⟩ 0
  rwa [World.size_alloc] at this
 obtain ⟨W1, hW1⟩ : ∃ W, (w.alloc (.cells #[.slice A n cap, .string s, .int .i64 k] 31)).alloc (.cells #[.slice none 0 0, .string ⟨#[]⟩, .int .i64 0] 31) = W := ⟨_, rfl⟩
 have HSZ := Hq (show W1.heap.size = w.heap.size + 1 + 1 from by rw [← hW1]; simp)
 rw [hW1] at hb1 ht1 hr1
 have HB1 := Hq hb1
 have HT1 := Hq ht1
 have HR1 := Hq hr1
 have hs1 := hs.kept hb1 (Nat.le_refl _)
 have HS0 := Hq hs
 have HS1 := Hq hs1
 obtain ⟨c0, c1, c2⟩ := ht1.c
 obtain ⟨r0, r1, r2⟩ := hr1.c
 have f0 := hr1.f 0
 have f1 := hr1.f 1
 have f2 := hr1.f 2
 have HRR := Hq (show rdN l k N = if (tpG l k && nvalid N) = true then (if N.toList.isEmpty = true then 11 else 0) else 3 from rfl)
 have HRC := Hq (show coN l s k N = if (tpG l k && nvalid N) = true then (if N.toList.isEmpty = true then (0, 11) else dwN l s k (num N)) else (0, 3) from rfl)
 unfold tpV at *
 by_cases he : rdN l k N = 0
 · have hok : tpG l k = true ∧ nvalid N = true ∧ N.toList.isEmpty = false := by
    rw [HRR.out] at he
    split at he
    · rename_i h1
      rw [Bool.and_eq_true] at h1
      split at he
      · cases he
      · rename_i h2; exact ⟨h1.1, h1.2, by simpa using h2⟩
    · cases he
   have HDD := Hq (HD.out hok.1 hok.2.1 hok.2.2)
   rw [HRC.out, hok.1, hok.2.1, hok.2.2]
   simp only [Bool.and_self, if_true, Bool.false_eq_true, if_false]
   obtain ⟨r, hr⟩ : ∃ r, dwN l s k (num N) = r := ⟨_, rfl⟩
   obtain ⟨x1, e1⟩ := r
   rw [hr] at HDD ⊢
   obtain ⟨t, ht⟩ : ∃ t, tpN e1 l s k = t := ⟨_, rfl⟩
   obtain ⟨tl, ts, tk⟩ := t
   simp only [] at HDD ⊢
   rw [ht] at HDD ⊢
   rw [he] at HRD
   have HRDD := Hq (HRD.out W1 HS1.out)
   clear he hok hr ht hs hs1 hb1 ht1 hr1 r0 r1 r2 f0 f1 f2 hp hN HRR HRC HD HRD
   go_enter Tryz.func49, Tryz.ntmps49
   go_wp2_with fail
   try rw [hW1]
   clear hW1
   refine (HRDD.out).mono ?_
   rintro ev w2 ⟨rfl, hb2⟩
   have HT2 := Hq (HT1.out.nextT hb2)
   have HR2 := Hq (HR1.out.nextT hb2)
   have HB2 := Hq (HB1.out.trans (hb2.mono HB1.out.size))
   have HS2 := Hq (HS1.out.kept hb2 (Nat.le_refl _))
   have HD2 := Hq (HDD.out w2 HB2.out HS2.out)
   clear c0 c1 c2 hb2
   obtain ⟨c0, c1, c2⟩ := HT2.out.c
   go_wp2_with fail
   refine (HD2.out).mono ?_
   rintro ev w3 ⟨B, c, rfl, hsl, hfr, hb3⟩
   have HR3 := Hq (HR2.out.nextT hb3)
   have HB3 := Hq (HB2.out.trans (hb3.mono HB2.out.size))
   have HSL := Hq hsl
   have HFR := Hq (show ∀ b o, B = some ⟨b, o, none⟩ → w.heap.size + 1 < b from fun b o h => Nat.lt_of_lt_of_le HR2.out.lt (hfr b o h))
   obtain ⟨m, hm⟩ : ∃ m, tl.length = m := ⟨_, rfl⟩
   have HM := Hq hm
   clear c0 c1 c2 hsl hb3 hfr
   simp only []
   rw [hm]
   clear hm
   obtain ⟨r0, r1, r2⟩ := HR3.out.c
   have f0 := HR3.out.f 0
   have f1 := HR3.out.f 1
   have f2 := HR3.out.f 2
   have hq := HR3.out.set3 (A' := B) (n' := m) (c' := c) (s' := ts) (a' := tk)
   obtain ⟨q0, q1, q2⟩ := hq.c
   have HBQ := Hq (below_set3 HB3.out (C := w.heap.size + 1) (by omega) (.slice B m c) (.string ts) (.int .i64 tk))
   clear hq
   obtain ⟨z, hz⟩ : ∃ z, nS x1 = z := ⟨_, rfl⟩
   rw [hz]
   go_wp2
   refine bodyPost_ret (v := .tuple #[.string z, .agg #[.slice B m c, .string ts, .int .i64 tk], .int .i64 e1]) (by simp [results, Tryz.results49, go_sem, q0, q1, q2]) rfl ?_
   refine ⟨B, c, ?_, ?_, (fun b o h => by have := HFR.out b o h; omega), HBQ.out⟩
   · show _ = Ending.returned (.tuple #[.string (nS x1), .agg #[.slice B tl.length c, .string ts, .int .i64 tk], .int .i64 e1])
     rw [HM.out, hz]
   · show SlN _ _ tl.length c tl
     exact ((HSL.out.setB HFR.out).setB HFR.out).setB HFR.out
 · have hne : ∃ e, rdN l k N = e ∧ ¬ e = 0 ∧ coN l s k N = (0, e) := by
    refine ⟨_, rfl, he, ?_⟩
    rw [HRC.out, HRR.out]
    rw [HRR.out] at he
    split
    · rename_i h1
      rw [if_pos h1] at he
      split
      · rfl
      · rename_i h2; rw [if_neg h2] at he; exact absurd rfl he
    · rfl
   obtain ⟨e1, he1, hn0, hcc⟩ := hne
   rw [hcc, tpN_err hn0]
   rw [he1] at HRD
   have HRDD := Hq (HRD.out W1 HS1.out)
   clear he he1 hcc hs hs1 hb1 ht1 hr1 hp hN HRR HRC HD HRD r0 r1 r2 f0 f1 f2
   go_enter Tryz.func49, Tryz.ntmps49
   go_wp2_with fail
   try rw [hW1]
   clear hW1
   refine (HRDD.out).mono ?_
   rintro ev w2 ⟨rfl, hb2⟩
   have HR2 := Hq (HR1.out.nextT hb2)
   have HB2 := Hq (HB1.out.trans (hb2.mono HB1.out.size))
   obtain ⟨r0, r1, r2⟩ := HR2.out.c
   have f0 := HR2.out.f 0
   have f1 := HR2.out.f 1
   have f2 := HR2.out.f 2
   have hq := HR2.out.set3 (A' := none) (n' := 0) (c' := 0) (s' := ⟨#[]⟩) (a' := 0)
   obtain ⟨q0, q1, q2⟩ := hq.c
   have HBQ := Hq (below_set3 HB2.out (C := w.heap.size + 1) (by omega) (.slice none 0 0) (.string ⟨#[]⟩) (.int .i64 0))
   clear hq c0 c1 c2 hb2
   go_wp2
   refine bodyPost_ret (v := .tuple #[.string ⟨#[]⟩, .agg #[.slice none 0 0, .string ⟨#[]⟩, .int .i64 0], .int .i64 e1]) (by simp [results, Tryz.results49, go_sem, q0, q1, q2]) rfl ?_
   exact ⟨none, 0, rfl, SlN.nil _ 0 (by omega) none, (fun b o h => by cases h), HBQ.out⟩
end Go.Proofs.YtndmjfkmnjejkaaGreatDoor
namespace Go.Proofs.YtndmjfkmnjejkaaGreatDoor
open Go.RowKit Go.Lib
theorem Bx4.off3 {W : World} {B C : Nat} {x y z u a b c : Value} {T : TypeId} (h : Bx4 W B x y z u T) (hne : B ≠ C) : Bx4 (((W.setCell ⟨C, 0, none⟩ a).setCell ⟨C, 1, none⟩ b).setCell ⟨C, 2, none⟩ c) B x y z u T := ((h.other hne _).other hne _).other hne _
theorem TB.off4 {W : World} {B C : Nat} {A : Option Addr} {n c : Nat} {s : ByteArray} {a : Int} {x y z u : Value} (h : TB W B A n c s a) (hne : B ≠ C) : TB ((((W.setCell ⟨C, 0, none⟩ x).setCell ⟨C, 1, none⟩ y).setCell ⟨C, 2, none⟩ z).setCell ⟨C, 3, none⟩ u) B A n c s a := (((h.off hne _).off hne _).off hne _).off hne _
theorem bx2_off3 {W : World} {B C : Nat} {x y a b c : Value} {T : TypeId} (h : Bx2 W B x y T) (hne : B ≠ C) : Bx2 (((W.setCell ⟨C, 0, none⟩ a).setCell ⟨C, 1, none⟩ b).setCell ⟨C, 2, none⟩ c) B x y T :=
 (heap_setCell_other _ _ _ _ hne).trans ((heap_setCell_other _ _ _ _ hne).trans ((heap_setCell_other _ _ _ _ hne).trans h))
theorem coN_lt {l : List ByteArray} {s : ByteArray} {k : Int} {B : ByteArray} (h : (coN l s k B).2 = 0) : (coN l s k B).1 < num B := by
 unfold coN at *
 split
 · rename_i h1
   rw [if_pos h1] at h
   split
   · rename_i h2; rw [if_pos h2] at h; cases h
   · rename_i h2; rw [if_neg h2] at h; exact dwN_ok h
 · rename_i h1; rw [if_neg h1] at h; cases h
end Go.Proofs.YtndmjfkmnjejkaaGreatDoor
namespace Go.Proofs.YtndmjfkmnjejkaaGreatDoor
set_option maxRecDepth 100000
set_option maxHeartbeats 1000000
open Go.RowKit
theorem r06_Good (l : List ByteArray) (s : ByteArray) (at_ : Int) (A : Option Addr) (n cap : Nat) (w : World) (hs : SlN w A n cap l) (hn : n ≤ 1000) (hp : ∀ x ∈ l, x.size ≤ 9223372036854775807) :
 Calls Tryz.prog 53 #[tpV A n cap s at_] w (Ret (.bool (tpG l at_)) w) := by
 have hT := TB.new w A n cap s at_
 have hB := (Below.refl w.heap.size w).alloc (Nat.le_refl _) (.cells #[.slice A n cap, .string s, .int .i64 at_] 31)
 have HS := Hq (hs.kept hB (Nat.le_refl _))
 obtain ⟨W, hW⟩ : ∃ W, w.alloc (.cells #[.slice A n cap, .string s, .int .i64 at_] 31) = W := ⟨_, rfl⟩
 rw [hW] at hT hB HS
 have HB := Hq hB
 obtain ⟨c0, c1, c2⟩ := hT.c
 have HLEN := Hq hs.1
 have hcap := hs.2.1
 have hcap2 := hs.2.2.1
 have hni : (n : Int) ≤ 1000 := by omega
 have HP := Hq hp
 have HR := Hq (show tpG l at_ = (decide (0 ≤ at_) && decide (at_ ≤ 2147483647) && l.all nvalid) from rfl)
 obtain ⟨R, hR⟩ : ∃ R, tpG l at_ = R := ⟨_, rfl⟩
 rw [hR] at HR ⊢
 unfold tpV
 clear hT hB hs hp hR
 go_enter Tryz.func53, Tryz.ntmps53
 go_wp2
 try rw [hW]
 clear hW
 go_loopw [3] (fun i wr => ∃ k : Nat, k ≤ n ∧ i = .int .i64 k ∧ (∀ j, j < k → ∃ s, l[j]? = some s ∧ nvalid s = true) ∧ wr = W) (fun i _ => n - (RowKit.intOf i).toNat)
 case atStart => exact ⟨0, Nat.zero_le _, rfl, fun j h => by omega, rfl⟩
 case round =>
  obtain ⟨k, hk, rfl, hall, rfl⟩ := hrel
  have HALL := Hq hall
  clear hall
  by_cases hlt : k < n
  · obtain ⟨b, o, rfl⟩ := HS.out.head (by omega)
    obtain ⟨x, he⟩ : ∃ s, l[k]? = some s := ⟨_, List.getElem?_eq_getElem (by rw [HLEN.out]; exact hlt)⟩
    have d0 := HS.out.get? k he
    have HE := Hq he
    have HV := Hq (r01_Valid x (HP.out x (List.mem_of_getElem? he)))
    have hki : (k : Int) < (n : Int) := by omega
    have HKN := Hq hlt
    clear he hk hlt
    cases hv : nvalid x with
    | false =>
     rw [hv] at HV
     have HR3 := Hq (show R = false from by rw [HR.out, Bool.eq_false_iff.2 (nall_false HE.out hv), Bool.and_false])
     clear hv
     go_wp2_with fail
     refine (HV.out _).mono ?_
     rintro ev w2 ⟨rfl, rfl⟩
     go_wp2
     go_ret
     exact ⟨by rw [HR3.out]; rfl, HB.out⟩
    | true =>
     rw [hv] at HV
     have HA2 := Hq (show ∀ j, j < k + 1 → ∃ s, l[j]? = some s ∧ nvalid s = true from fun j hj => by
      by_cases e : j = k
      · subst e; exact ⟨x, HE.out, hv⟩
      · exact HALL.out j (by omega))
     clear hv
     go_wp2_with fail
     refine (HV.out _).mono ?_
     rintro ev w2 ⟨rfl, rfl⟩
     go_wp2
     refine ⟨⟨k + 1, by have := HKN.out; omega, by go_num, HA2.out, trivial⟩, ?_⟩
     have := HKN.out; simp [RowKit.intOf]; omega
  · have HAV := Hq (show R = (decide (0 ≤ at_) && decide (at_ ≤ 2147483647)) from by
     rw [HR.out, nall_true fun j hj => HALL.out j (by rw [HLEN.out] at hj; omega), Bool.and_true])
    have hge : ¬ ((k : Int) < (n : Int)) := by omega
    clear hk hlt HALL HS
    by_cases h0 : 0 ≤ at_
    · by_cases h1 : at_ ≤ 2147483647
      · rw [decide_eq_true h0, decide_eq_true h1] at HAV
        go_wp2
        go_ret
        exact ⟨by rw [HAV.out]; rfl, HB.out⟩
      · have h1' : decide (at_ ≤ 2147483647) = false := decide_eq_false h1
        rw [decide_eq_true h0, h1'] at HAV
        go_wp2
        go_ret
        exact ⟨by rw [HAV.out]; rfl, HB.out⟩
    · have h0' : decide (0 ≤ at_) = false := decide_eq_false h0
      rw [h0', Bool.false_and] at HAV
      go_wp2
      go_ret
      exact ⟨by rw [HAV.out]; rfl, HB.out⟩
theorem bstr_extract1 (l : List UInt8) : (bstr l).extract 1 (bstr l).size = bstr (l.drop 1) := by
 rw [bstr_size]
 unfold bstr
 rw [ByteArray.extract_mk]
 simp
 exact List.take_of_length_le (by simp)
theorem r06_canonical (l : List UInt8) (hl : l.length ≤ 1000000) (w : World) : Calls Tryz.prog 196 #[.string (bstr l)] w (RetQ (.string (bstr (trimZ l))) w) := by
 go_enter Tryz.func196, Tryz.ntmps196
 go_wp2
 go_loopw [0] (fun v wr => ∃ l' : List UInt8, v = .string (bstr l') ∧ trimZ l' = trimZ l ∧ l'.length ≤ l.length ∧ wr = w) (fun v _ => match v with | .string s => s.size | _ => 0)
 case atStart => exact ⟨l, rfl, rfl, Nat.le_refl _, rfl⟩
 case round =>
  obtain ⟨l', rfl, htr, hle, rfl⟩ := hrel
  have HTR := Hq htr
  have HLE := Hq hle
  clear htr hle
  by_cases h0 : 0 < l'.length
  · have hsz : 0 < (bstr l').size := by rw [bstr_size]; exact h0
    have hgt : (0 : Int) < ((bstr l').size : Int) := by omega
    have hx1 := bstr_extract1 l'
    obtain ⟨l2, hl2⟩ : ∃ l2, l'.drop 1 = l2 := ⟨_, rfl⟩
    rw [hl2] at hx1
    have HL2 := Hq hl2
    have hge1 : (1 : Int) ≤ ((bstr l').size : Int) := by omega
    have hs1 : 1 ≤ (bstr l').size := hsz
    have hlem : (bstr l').size ≤ 9223372036854775807 := by rw [bstr_size]; have := HLE.out; omega
    have HSZ2 := Hq (show (bstr l2).size < (bstr l').size from by rw [bstr_size, bstr_size, ← hl2, List.length_drop]; omega)
    have HLN2 := Hq (show l2.length ≤ l.length from by rw [← hl2, List.length_drop]; have := HLE.out; omega)
    have hb0 : ((bstr l')[0]'hsz).toNat = (l'.getD 0 0).toNat := by rw [← data_getD (bstr l') 0 hsz, bstr_data]
    by_cases hz : byteI l' 0 = 0
    · have hz2 : ((((bstr l')[0]'hsz).toNat : Int) == 0) = true := by rw [hb0]; exact beq_iff_eq.2 hz
      have HN := Hq (show trimZ l2 = trimZ l from by rw [← HTR.out, trimZ_zero h0 hz, hl2])
      obtain ⟨st, hst⟩ : ∃ st, bstr l' = st := ⟨_, rfl⟩
      obtain ⟨st2, hst2⟩ : ∃ st, bstr l2 = st := ⟨_, rfl⟩
      have HST2 := Hq hst2
      rw [hst2] at hx1 HSZ2
      clear hb0 hz h0 hl2 hst2 HTR HLE
      subst hst
      go_wp2
      exact ⟨⟨l2, by rw [HST2.out], HN.out, HLN2.out, trivial⟩, HSZ2.out⟩
    · have hz2 : ((((bstr l')[0]'hsz).toNat : Int) == 0) = false := by rw [hb0]; exact beq_eq_false_iff_ne.2 hz
      have HN := Hq (show trimZ l = l' from by rw [← HTR.out]; exact trimZ_stop (.inr hz))
      clear hb0 hz h0 hl2 hx1 hge1 hs1
      go_wp2
      go_ret
      rw [HN.out]
      exact ⟨rfl, rfl⟩
  · have hsz : (bstr l').size = 0 := by rw [bstr_size]; omega
    have HN := Hq (show trimZ l = l' from by rw [← HTR.out]; exact trimZ_stop (.inl (by omega)))
    clear h0
    go_wp2
    go_ret
    rw [HN.out]
    exact ⟨rfl, rfl⟩
end Go.Proofs.YtndmjfkmnjejkaaGreatDoor
namespace Go.Proofs.YtndmjfkmnjejkaaGreatDoor
set_option maxRecDepth 100000
open Go.RowKit
theorem run_shl {P : Program} (x : BitVec 32) (k : IntKind) (m : Nat) (hm : m ≤ 32) (w : World) : (Op.shift .shl .u32 (wi x) k (m : Int)).run P w = .ok (.int .u32 (wi (x <<< m))) w := by
 have e : min m 32 = m := by omega
 simp only [Op.shift, if_neg (show ¬ ((m : Int) < 0) by omega), Int.toNat_natCast, IntKind.bits, e, wi_shl]; rfl
theorem rot_all : ∀ n : Fin 32, n.val = 0 ∨ bits .and .u64 (IntKind.u64.wrap (-(n.val : Int))) 31 = ((32 - n.val : Nat) : Int) := by decide +kernel
theorem rot_and (n : Nat) (h0 : 0 < n) (h1 : n < 32) : bits .and .u64 (IntKind.u64.wrap (-(n : Int))) 31 = ((32 - n : Nat) : Int) := (rot_all ⟨n, h1⟩).resolve_left (by simp; omega)
theorem wi_div (x : BitVec 32) (n : Nat) : wi x / 2 ^ n = wi (x >>> n) := by rw [← wi_shr, Int.fdiv_eq_ediv_of_nonneg _ (Int.pow_nonneg (by decide))]
theorem rot_sub (n : Nat) (h0 : 0 < n) (h1 : n < 32) : IntKind.u64.wrap (32 - ((32 - n : Nat) : Int)) = n := by
 rw [IntKind.wrap_u64]; omega
theorem bits_rot (x : BitVec 32) (n : Nat) (h0 : 0 < n) (h1 : n < 32) (w : World) : Calls Tryz.prog 244 #[.int .u32 (wi x), .int .i64 (-(n : Int))] w (RetQ (.int .u32 (wi (rr x n))) w) := by
 have H1 : ∀ w, (Op.shift .shl .u32 (wi x) .u64 (bits .and .u64 (IntKind.u64.wrap (-(n : Int))) 31)).run Tryz.prog w = .ok (.int .u32 (wi (x <<< (32 - n)))) w := by
  intro w; rw [rot_and n h0 h1]; exact run_shl _ _ _ (by omega) _
 have H2 : wi x / 2 ^ min (IntKind.u64.wrap (32 - bits .and .u64 (IntKind.u64.wrap (-(n : Int))) 31)).toNat 32 = wi (x >>> n) := by
  rw [rot_and n h0 h1, rot_sub n h0 h1, Int.toNat_natCast, Nat.min_eq_left (by omega)]; exact wi_div _ _
 have H3 : bits .or .u32 (wi (x <<< (32 - n))) (wi (x >>> n)) = wi (rr x n) := by rw [wi_or, BitVec.or_comm]; rfl
 clear h0 h1
 go_enter Tryz.func244, Tryz.ntmps244
 go_wp2
 go_ret
 exact ⟨rfl, rfl⟩
theorem h_turn (x : BitVec 32) (n : Nat) (h0 : 0 < n) (h1 : n < 32) (w : World) : Calls Tryz.prog 238 #[.int .u32 (wi x), .int .i64 n] w (RetQ (.int .u32 (wi (rr x n))) w) := by
 go_enter Tryz.func238, Tryz.ntmps238
 go_wp2_with fail
 refine (bits_rot x n h0 h1 _).mono ?_
 rintro e w1 ⟨rfl, rfl⟩
 go_wp2
 go_ret
 exact ⟨rfl, rfl⟩
theorem r05_right (x : BitVec 32) (n : Nat) (h0 : 0 < n) (h1 : n < 32) (w : World) : Calls Tryz.prog 241 #[.int .u32 (wi x), .int .i64 n] w (Ret (.int .u32 (wi (rr x n))) w) := by
 have H1 : ∀ w, (Op.shift .shl .u32 (wi x) .i64 (IntKind.i64.wrap (32 - (n : Int)))).run Tryz.prog w = .ok (.int .u32 (wi (x <<< (32 - n)))) w := by
  intro w; rw [show IntKind.i64.wrap (32 - (n : Int)) = ((32 - n : Nat) : Int) by rw [IntKind.wrap_i64]; omega]; exact run_shl _ _ _ (by omega) _
 have H2 : wi x / 2 ^ n = wi (x >>> n) := wi_div _ _
 have H3 : bits .or .u32 (wi (x >>> n)) (wi (x <<< (32 - n))) = wi (rr x n) := by rw [wi_or]; rfl
 have hn : (n : Int) < 32 := by omega
 clear h0 h1
 go_enter Tryz.func241, Tryz.ntmps241
 go_wp2
 refine wp_region_K 9 (Below (w.drew).heap.size (w.drew)) (by kernel_rfl) ?_
 intro hD
 refine rP 0 5 8 rfl hD (Below.refl _ _) ?_; clear hD; intro hD; simp only [Act.put, sqA, sqB, sqC]
 refine rP 1 6 7 rfl hD (Below.refl _ _) ?_; clear hD; intro hD; simp only [Act.put, sqA, sqB, sqC]
 refine rP 2 7 6 rfl hD (Below.refl _ _) ?_; clear hD; intro hD; simp only [Act.put, sqA, sqB, sqC]
 refine rP 3 8 5 rfl hD (Below.refl _ _) ?_; clear hD; intro hD; simp only [Act.put, sqA, sqB, sqC]
 refine rP 4 9 4 rfl hD (Below.refl _ _) ?_; clear hD; intro hD; simp only [Act.put, sqA, sqB, sqC]
 refine rP 5 10 3 rfl hD (Below.refl _ _) ?_; clear hD; intro hD; simp only [Act.put, sqA, sqB, sqC]
 refine rP 6 11 2 rfl hD (Below.refl _ _) ?_; clear hD; intro hD; simp only [Act.put, sqA, sqB, sqC]
 refine rP 7 12 1 rfl hD (Below.refl _ _) ?_; clear hD; intro hD; simp only [Act.put, sqA, sqB, sqC]
 refine rO 8 0 rfl hD ?_; clear hD; intro K8 hK8
 go_wp2
 refine hK8 _ _ (by exact (Below.refl _ _)) ?_; clear hK8; intro hS_1_8 hD
 refine wpAnyK_done (by kernel_rfl) ?_ 0
 go_wp2
 go_ret
 exact ⟨rfl, (Below.refl _ _).drew⟩
end Go.Proofs.YtndmjfkmnjejkaaGreatDoor

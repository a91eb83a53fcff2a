/- Walk: dominolaw57.awake. -/
import Derived.Test.YthidhgniondkgaaAwk
set_option linter.unusedVariables false
set_option linter.unusedSimpArgs false
namespace Go.Proofs.Ythidhgniondkgaa
open Go.RowKit

theorem led_Members_eq (l : List En) (A : Option Addr) (len cap : Nat) (p : Int) (w : World) (hs : SlE w A len cap l) (hlb : len ≤ 1000000000) (hsz : SzE l) (hp : p ≤ 9223372036854775807) {r : List ByteArray} {f : Int} (h : memS l p = (r, f)) :
    Calls Try.prog 12 #[.slice A len cap, .int .i64 p] w (RetNs r .i64 f w) := by
  have := led_Members l A len cap p w hs hlb hsz hp
  rw [h] at this
  exact this
theorem led_Append_eq (l : List En) (A : Option Addr) (len cap : Nat) (e : En) (w : World) (hs : SlE w A len cap l) (hlb : len ≤ 1000000000) (hsz : SzE l) (hh : e.handle.size ≤ maxLen) (hsc : e.schema.size ≤ 9223372036854775807) {f : Int} (h : followsS l e = f) (hf : f ≠ 0) :
    Calls Try.prog 10 #[.slice A len cap, e.val] w (RetEs [] .i64 f w) := by
  have := led_Append l A len cap e w hs hlb hsz hh hsc
  unfold appS at this
  rw [h, if_neg hf] at this
  exact this

theorem led_Append_ok (l : List En) (A : Option Addr) (len cap : Nat) (e : En) (w : World) (hs : SlE w A len cap l) (hlb : len ≤ 1000000000) (hsz : SzE l) (hh : e.handle.size ≤ maxLen) (hsc : e.schema.size ≤ 9223372036854775807) (h : followsS l e = 0) :
    Calls Try.prog 10 #[.slice A len cap, e.val] w (RetEs (l ++ [e]) .i64 0 w) := by
  have := led_Append l A len cap e w hs hlb hsz hh hsc
  unfold appS at this
  rw [if_pos h] at this
  exact this

/-- A new block of strings. -/
theorem sln_alloc (w : World) (l : List ByteArray) (T : TypeId) (h : l.length ≤ 9223372036854775807 := by decide) : SlN (w.alloc (.cells (l.map Value.string).toArray T)) (some ⟨w.heap.size, 0, none⟩) l.length l.length l := by
  refine ⟨rfl, Nat.le_refl _, h, w.heap.size, 0, fun _ => rfl, fun k s hk => ?_⟩
  rw [World.cell?_alloc_at (hn := rfl), Nat.zero_add]
  simp [hk]

set_option maxRecDepth 100000 in
set_option maxHeartbeats 4000000 in
theorem awake_any (w : World) : Calls Try.prog 7 #[] w (Ret (.bool true) w) := by
  go_enter Try.func7, Try.ntmps7
  go_wp2_with fail
  refine (example_any _).mono ?_
  rintro e1 w1 ⟨A, cap, rfl, hs1, hb1⟩
  have hcap := hs1.2.1
  have hcap2 := hs1.2.2.1
  have HL := Lib.hid hs1
  have HB := Lib.hid hb1
  clear hs1 hb1
  obtain ⟨b, o, rfl⟩ := HL.out.head (by omega)
  go_wp2
  go_loopw [22] (fun i wr => ∃ k : Nat, k ≤ 5 ∧ i = .int .i64 k ∧ Below w1.heap.size w1 wr) (fun i _ => 5 - (intOf i).toNat)
  case atStart => exact ⟨0, Nat.zero_le _, rfl, Below.refl _ _⟩
  case round =>
    obtain ⟨k, hk, rfl, hB⟩ := hrel
    have HL2 := Lib.hid (HL.out.kept hB (Nat.le_refl _))
    have HB2 := Lib.hid hB
    clear hB
    by_cases hlt : k < 5
    · obtain ⟨e, he⟩ : ∃ e, exL[k]? = some e := ⟨_, List.getElem?_eq_getElem (by exact hlt)⟩
      obtain ⟨c0, c1, c2, c3⟩ := HL2.out.get? k he
      have hst := ex_step k hlt e he
      have HTK := Lib.hid (HL2.out.take k (by omega))
      have HST := Lib.hid hst
      have hsz : e.handle.size ≤ maxLen := ex_sz k e he
      have hsc : e.schema.size ≤ 9223372036854775807 := by
        have := List.mem_of_getElem? he
        simp only [exL, List.mem_cons, List.mem_nil_iff, or_false] at this
        rcases this with rfl | rfl | rfl | rfl | rfl <;> decide
      have hszt : SzE (exL.take k) := fun j e he => ex_sz j e (by rw [List.getElem?_take] at he; split at he; exact he; cases he)
      have HE := Lib.hid he
      have HSZ := Lib.hid hsz
      have HSC := Lib.hid hsc
      have HSZT := Lib.hid hszt
      have i1 : (0 : Int) ≤ (k : Int) := by omega
      have i2 : (k : Int) < 5 := by omega
      have i3 : (k : Int) ≤ (cap : Int) := by omega
      clear he hst hsz hsc hszt
      go_wp2
      refine wp_region_K 7 (Below (wr.drew).heap.size (wr.drew)) (by kernel_rfl) ?_
      intro hD
      refine wpAnyK_pure (i := 0) (v := ?v5_0b1) (fuel := 12) rfl (by kernel_rfl) (fun _ _ _ h => h) hD (Below.refl _ _) (.inl ⟨by kernel_rfl, ?y5_0b1⟩) ?n5_0b1
      case y5_0b1 => intro w' _; go_simp; with_reducible rfl
      clear hD; intro hD
      simp only [Act.put, List.setIfInBounds_toArray, List.set_cons_zero, List.set_cons_succ]
      refine wpAnyK_pure (i := 1) (v := ?v5_1b1) (fuel := 11) rfl (by kernel_rfl) (fun _ _ _ h => h) hD (Below.refl _ _) (.inl ⟨by kernel_rfl, ?y5_1b1⟩) ?n5_1b1
      case y5_1b1 => intro w' _; go_simp; with_reducible rfl
      clear hD; intro hD
      simp only [Act.put, List.setIfInBounds_toArray, List.set_cons_zero, List.set_cons_succ]
      refine wpAnyK_pure (i := 2) (v := ?v5_2b1) (fuel := 10) rfl (by kernel_rfl) (fun _ _ _ h => h) hD (Below.refl _ _) (.inl ⟨by kernel_rfl, ?y5_2b1⟩) ?n5_2b1
      case y5_2b1 => intro w' _; go_simp; with_reducible rfl
      clear hD; intro hD
      simp only [Act.put, List.setIfInBounds_toArray, List.set_cons_zero, List.set_cons_succ]
      refine wpAnyK_pure (i := 3) (v := ?v5_3b1) (fuel := 9) rfl (by kernel_rfl) (fun _ _ _ h => h) hD (Below.refl _ _) (.inl ⟨by kernel_rfl, ?y5_3b1⟩) ?n5_3b1
      case y5_3b1 => intro w' _; go_simp; with_reducible rfl
      clear hD; intro hD
      simp only [Act.put, List.setIfInBounds_toArray, List.set_cons_zero, List.set_cons_succ]
      refine wpAnyK_pure (i := 4) (v := ?v5_4b1) (fuel := 8) rfl (by kernel_rfl) (fun _ _ _ h => h) hD (Below.refl _ _) (.inl ⟨by kernel_rfl, ?y5_4b1⟩) ?n5_4b1
      case y5_4b1 => intro w' _; go_simp; with_reducible rfl
      clear hD; intro hD
      simp only [Act.put, List.setIfInBounds_toArray, List.set_cons_zero, List.set_cons_succ]
      refine wpAnyK_pure (i := 5) (v := ?v5_5b1) (fuel := 7) rfl (by kernel_rfl) (fun _ _ _ h => h) hD (Below.refl _ _) (.inl ⟨by kernel_rfl, ?y5_5b1⟩) ?n5_5b1
      case y5_5b1 => intro w' _; go_simp; with_reducible rfl
      clear hD; intro hD
      simp only [Act.put, List.setIfInBounds_toArray, List.set_cons_zero, List.set_cons_succ]
      refine wpAnyK_take (i := 6) (v := ?v5_6b1) (fuel := 6) rfl (by kernel_rfl) (by kernel_rfl) (fun _ _ _ h => h) hD (Below.refl _ _) (.inl ⟨by kernel_rfl, ?y5_6b1⟩) ?n5_6b1
      case y5_6b1 => intro w' hS'; have e0 := cell_kept hS' (Nat.le_refl _) c0; have e1 := cell_kept hS' (Nat.le_refl _) c1; have e2 := cell_kept hS' (Nat.le_refl _) c2; have e3 := cell_kept hS' (Nat.le_refl _) c3; go_simp; with_reducible rfl
      clear hD; intro hD
      simp only [Act.put, List.setIfInBounds_toArray, List.set_cons_zero, List.set_cons_succ]
      refine wpAnyK_oneT (i := 7) (fuel := 5) (by kernel_rfl) rfl hD (by kernel_rfl) ?_
      clear hD; intro K7 hK7
      go_wp2_with fail
      refine (led_Append_ok (exL.take k) _ k cap e _ (HTK.out.kept (Below.refl _ _).drew (Nat.le_refl _)) (by omega) HSZT.out HSZ.out HSC.out HST.out).mono ?_
      rintro e7 w7 ⟨A7, cap7, rfl, hs7, hb7⟩
      have HB7 := Lib.hid hb7
      clear hb7 hs7
      rw [show (exL.take k ++ [e]).length = k + 1 from by rw [List.length_append, List.length_take, show exL.length = 5 from rfl, List.length_singleton]; omega]
      go_wp2
      refine hK7 _ _ ?_; clear hK7; intro hD
      refine wpAnyK_pureT (i := 8) (v := ?v5_8b1) (fuel := 4) rfl (by kernel_rfl) (by kernel_rfl) (fun _ _ _ h => h) hD  (.inl ⟨by kernel_rfl, ?y5_8b1⟩) ?n5_8b1
      case y5_8b1 => intro w' _; go_simp; with_reducible rfl
      clear hD; intro hD
      simp only [Act.put, List.setIfInBounds_toArray, List.set_cons_zero, List.set_cons_succ]
      refine wpAnyK_pureT (i := 9) (v := ?v5_9b1) (fuel := 3) rfl (by kernel_rfl) (by kernel_rfl) (fun _ _ _ h => h) hD  (.inl ⟨by kernel_rfl, ?y5_9b1⟩) ?n5_9b1
      case y5_9b1 => intro w' _; go_simp; with_reducible rfl
      clear hD; intro hD
      simp only [Act.put, List.setIfInBounds_toArray, List.set_cons_zero, List.set_cons_succ]
      refine wpAnyK_pureT (i := 10) (v := ?v5_10b1) (fuel := 2) rfl (by kernel_rfl) (by kernel_rfl) (fun _ _ _ h => h) hD  (.inl ⟨by kernel_rfl, ?y5_10b1⟩) ?n5_10b1
      case y5_10b1 => intro w' _; go_simp; with_reducible rfl
      clear hD; intro hD
      simp only [Act.put, List.setIfInBounds_toArray, List.set_cons_zero, List.set_cons_succ]
      refine wpAnyK_oneT (i := 11) (fuel := 1) (by kernel_rfl) rfl hD (by kernel_rfl) ?_
      clear hD; intro K11 hK11
      go_wp2
      refine hK11 _ _ ?_; clear hK11; intro hD
      refine wpAnyK_oneT (i := 12) (fuel := 0) (by kernel_rfl) rfl hD (by kernel_rfl) ?_
      clear hD; intro K12 hK12
      go_wp2
      refine hK12 _ _ ?_; clear hK12; intro hD
      refine wpAnyK_done (by kernel_rfl) ?_ 0
      clear hD
      have HX := Lib.hid HB7.out
      go_wp2
      go_roundw
      case rel => exact ⟨k + 1, by omega, by go_num, HB2.out.drew.trans (HX.out.mono HB2.out.size)⟩
      case measure => simp [intOf]; omega
    · obtain rfl : k = 5 := by omega
      have HB0 := Lib.hid (HB.out.trans (HB2.out.mono HB.out.size))
      have HL0 := Lib.hid HL2.out
      clear HB HL HL2 HB2
      go_wp2_with fail
      refine (led_Members_eq exL _ 5 cap 0 _ HL0.out (by omega) ex_sz (by omega) ex_m0).mono ?_
      rintro e10 w10 ⟨A10, cap10, rfl, hs10, hb10⟩
      have HL10 := Lib.hid (HL0.out.kept hb10 (Nat.le_refl _))
      have HB10 := Lib.hid (HB0.out.trans (hb10.mono HB0.out.size))
      have HM10 := Lib.hid hs10
      have HK10 := Lib.hid hb10
      clear hs10 hb10
      go_wp2_with fail
      refine (led_Members_eq exL _ 5 cap 1 _ HL10.out (by omega) ex_sz (by omega) ex_m1).mono ?_
      rintro e11 w11 ⟨A11, cap11, rfl, hs11, hb11⟩
      have HL11 := Lib.hid (HL10.out.kept hb11 (Nat.le_refl _))
      have HB11 := Lib.hid (HB10.out.trans (hb11.mono HB10.out.size))
      have HM11 := Lib.hid hs11
      have HK11 := Lib.hid hb11
      clear hs11 hb11
      go_wp2_with fail
      refine (led_Members_eq exL _ 5 cap 2 _ HL11.out (by omega) ex_sz (by omega) ex_m2).mono ?_
      rintro e12 w12 ⟨A12, cap12, rfl, hs12, hb12⟩
      have HL12 := Lib.hid (HL11.out.kept hb12 (Nat.le_refl _))
      have HB12 := Lib.hid (HB11.out.trans (hb12.mono HB11.out.size))
      have HM12 := Lib.hid hs12
      have HK12 := Lib.hid hb12
      clear hs12 hb12
      go_wp2_with fail
      refine (led_Append_eq exL _ 5 cap ⟨1, ⟨#[3]⟩, ⟨#[]⟩, 2⟩ _ HL12.out (by omega) ex_sz (by decide) (by decide) ex_a1 (by decide)).mono ?_
      rintro e13 w13 ⟨A13, cap13, rfl, hs13, hb13⟩
      have HL13 := Lib.hid (HL12.out.kept hb13 (Nat.le_refl _))
      have HB13 := Lib.hid (HB12.out.trans (hb13.mono HB12.out.size))
      have HK13 := Lib.hid hb13
      clear hs13 hb13
      go_wp2_with fail
      refine (led_Append_eq exL _ 5 cap ⟨0, ⟨#[3]⟩, ⟨#[67, 97, 114, 100]⟩, 2⟩ _ HL13.out (by omega) ex_sz (by decide) (by decide) ex_a2 (by decide)).mono ?_
      rintro e14 w14 ⟨A14, cap14, rfl, hs14, hb14⟩
      have HL14 := Lib.hid (HL13.out.kept hb14 (Nat.le_refl _))
      have HB14 := Lib.hid (HB13.out.trans (hb14.mono HB13.out.size))
      have HK14 := Lib.hid hb14
      clear hs14 hb14
      go_wp2_with fail
      refine (led_Append_eq exL _ 5 cap ⟨1, ⟨#[7]⟩, ⟨#[]⟩, 2⟩ _ HL14.out (by omega) ex_sz (by decide) (by decide) ex_a3 (by decide)).mono ?_
      rintro e15 w15 ⟨A15, cap15, rfl, hs15, hb15⟩
      have HL15 := Lib.hid (HL14.out.kept hb15 (Nat.le_refl _))
      have HB15 := Lib.hid (HB14.out.trans (hb15.mono HB14.out.size))
      have HK15 := Lib.hid hb15
      clear hs15 hb15
      go_wp2_with fail
      refine (led_Append_eq exL _ 5 cap ⟨1, ⟨#[5]⟩, ⟨#[]⟩, 1⟩ _ HL15.out (by omega) ex_sz (by decide) (by decide) ex_a4 (by decide)).mono ?_
      rintro e16 w16 ⟨A16, cap16, rfl, hs16, hb16⟩
      have HL16 := Lib.hid (HL15.out.kept hb16 (Nat.le_refl _))
      have HB16 := Lib.hid (HB15.out.trans (hb16.mono HB15.out.size))
      have HK16 := Lib.hid hb16
      clear hs16 hb16
      have HM11' := Lib.hid (((((HM11.out.kept HK12.out (Nat.le_refl _)).kept HK13.out (Nat.le_refl _)).kept HK14.out (Nat.le_refl _)).kept HK15.out (Nat.le_refl _)).kept HK16.out (Nat.le_refl _))
      have HM12' := Lib.hid ((((HM12.out.kept HK13.out (Nat.le_refl _)).kept HK14.out (Nat.le_refl _)).kept HK15.out (Nat.le_refl _)).kept HK16.out (Nat.le_refl _))
      go_wp2_with fail
      refine (eq_nats [⟨#[3]⟩, ⟨#[5]⟩] _ _ 2 cap11 2 _ (HM11'.out.kept ((Below.refl _ _).alloc (Nat.le_refl _) _) (Nat.le_refl _)) (sln_alloc w16 [⟨#[3]⟩, ⟨#[5]⟩] _)).mono ?_
      rintro e17 w17 ⟨rfl, hb17⟩
      have hbb := ((Below.refl w16.heap.size w16).alloc (Nat.le_refl _) _).trans (hb17.mono (by simp))
      have HM17 := Lib.hid (HM12'.out.kept hbb (Nat.le_refl _))
      have HB17 := Lib.hid (HB16.out.trans (hbb.mono HB16.out.size))
      clear hb17 hbb
      go_wp2_with fail
      refine (eq_nats [⟨#[5]⟩] _ _ 1 cap12 1 _ (HM17.out.kept ((Below.refl _ _).alloc (Nat.le_refl _) _) (Nat.le_refl _)) (sln_alloc w17 [⟨#[5]⟩] _)).mono ?_
      rintro e18 w18 ⟨rfl, hb18⟩
      have hbb := ((Below.refl w17.heap.size w17).alloc (Nat.le_refl _) _).trans (hb18.mono (by simp))
      have HB18 := Lib.hid (HB17.out.trans (hbb.mono HB17.out.size))
      clear hb18 hbb
      go_wp2
      go_ret
      exact ⟨rfl, HB18.out⟩
end Go.Proofs.Ythidhgniondkgaa

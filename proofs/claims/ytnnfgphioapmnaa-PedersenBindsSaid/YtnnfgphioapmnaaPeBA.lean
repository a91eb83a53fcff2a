/- Walks: power.Mul, Exp; dominoref13.Mul, Exp. -/
import Derived.Test.YtnnfgphioapmnaaPeO
set_option linter.unusedVariables false
set_option linter.unusedSimpArgs false
namespace Go.Proofs.Ytnnfgphioapmnaa
open Go.RowKit

/-- What a product of two elements returns. -/
def mlR (M O a b : ByteArray) : Value :=
  if ckR M O [a, b] [] true = 0 then .tuple #[.string (nS (num a * num b % num M)), .int .i64 0] else .tuple #[.string ⟨#[]⟩, .int .i64 (ckR M O [a, b] [] true)]
theorem mlR_form (M O a b : ByteArray) : ∃ s c, mlR M O a b = .tuple #[.string s, .int .i64 c] := by
  unfold mlR
  split
  · exact ⟨_, _, rfl⟩
  · exact ⟨_, _, rfl⟩
theorem slz_nil (w : World) : SlZ w none 0 0 [] := ⟨rfl, Nat.le_refl _, by omega, 0, 0, fun h => by omega, fun k z h => by simp at h⟩
set_option maxRecDepth 100000 in
set_option maxHeartbeats 2000000 in
theorem pw_Mul (M O a b : ByteArray) (hM : M.size ≤ 8) (hO : O.size ≤ 8) (ha : a.size ≤ 1000) (hb : b.size ≤ 1000) (w : World) : Calls Try.prog 46 #[gV M O, .string a, .string b] w (Ret (mlR M O a b) w) := by
  have HCK := Lib.hid (fun (A : Option Addr) (w : World) (hl : SlN w A 2 2 [a, b]) => pw_checked M O [a, b] [] true A none 2 2 0 0 hM hO (by intro s hs; simp only [List.mem_cons, List.mem_nil_iff, or_false] at hs; rcases hs with rfl | rfl; exact ha; exact hb) (by intro z hz; cases hz) (by omega) (by omega) w hl (slz_nil w))
  have HMU := Lib.hid (fun (hc : ckR M O [a, b] [] true = 0) (w : World) => show Calls Try.prog 20 #[.string a, .string b, .string M] w (Ret (.tuple #[.string (nS (num a * num b % num M)), .int .i64 0]) w) from by
    obtain ⟨g1, _, g3, _, g5⟩ := ckR_zero hc
    obtain ⟨v1, v2, g6⟩ := chkK_parts g3
    have u1 := hasN_unit (all_get (l := [a, b]) (k := 0) (p := fun s => hasN (num M) (num O) (num s)) g5 rfl) g6
    have u2 := hasN_unit (all_get (l := [a, b]) (k := 1) (p := fun s => hasN (num M) (num O) (num s)) g5 rfl) g6
    have n1 := nS_num (all_get (l := [a, b]) (k := 0) g1 rfl)
    have n2 := nS_num (all_get (l := [a, b]) (k := 1) g1 rfl)
    have hm8 := num_small hM
    have := mod_Mul (num a) (num b) (num M) (by omega) (by omega) hm8 (by omega) w
    rwa [← n1, ← n2, ← nS_num v1] at this)
  have HRV := Lib.hid (show ∃ R, mlR M O a b = R from ⟨_, rfl⟩)
  obtain ⟨R, hR⟩ := HRV.out
  have HRR := Lib.hid hR
  rw [hR]
  clear hM hO ha hb hR HRV
  unfold gV at *
  by_cases hc : ckR M O [a, b] [] true = 0
  · have HR := Lib.hid (show R = .tuple #[.string (nS (num a * num b % num M)), .int .i64 0] from by rw [← HRR.out]; unfold mlR; rw [if_pos hc])
    have HMM := Lib.hid (HMU.out hc)
    rw [hc] at HCK
    rw [HR.out]
    obtain ⟨r, hr⟩ : ∃ r, nS (num a * num b % num M) = r := ⟨_, rfl⟩
    rw [hr] at HMM ⊢
    clear hc hr HMU
    go_enter Try.func46, Try.ntmps46
    have HX0 := Lib.hid (Bx2.new w (.string M) (.string O) 24)
    have HB0 := Lib.hid ((Below.refl w.heap.size w).alloc (Nat.le_refl _) (.cells #[.string M, .string O] 24))
    obtain ⟨W0, hW0⟩ : ∃ W0, w.alloc (.cells #[.string M, .string O] 24) = W0 := ⟨_, rfl⟩
    rw [hW0] at HX0 HB0
    have c0 := HX0.out.c0
    have c1 := HX0.out.c1
    have hs := sln_alloc W0 [a, b] 22 (by simp)
    have hba : Below W0.heap.size W0 (W0.alloc (.cells #[.string a, .string b] 22)) := (Below.refl _ _).alloc (Nat.le_refl _) _
    have HCC := Lib.hid (HCK.out _ _ hs)
    have HB1 := Lib.hid (HB0.out.trans (hba.mono HB0.out.size))
    have HX1 := Lib.hid (HX0.out.next hba)
    clear hs hba
    go_wp2_with fail
    try rw [hW0]
    clear hW0
    refine HCC.out.mono ?_
    rintro e w1 ⟨rfl, hb⟩
    have HB2 := Lib.hid (HB1.out.trans (hb.mono HB1.out.size))
    have hx := HX1.out.next hb
    clear hb c0 c1
    have c0 := hx.c0
    have c1 := hx.c1
    clear hx
    go_wp2_with fail
    refine (HMM.out _).mono ?_
    rintro e w2 ⟨rfl, hb⟩
    have HB3 := Lib.hid (HB2.out.trans (hb.mono HB2.out.size))
    clear hb
    go_wp2
    go_ret2
    exact ⟨rfl, HB3.out⟩
  · have HR := Lib.hid (show R = .tuple #[.string ⟨#[]⟩, .int .i64 (ckR M O [a, b] [] true)] from by rw [← HRR.out]; unfold mlR; rw [if_neg hc])
    rw [HR.out]
    obtain ⟨cc, hcc⟩ : ∃ cc, ckR M O [a, b] [] true = cc := ⟨_, rfl⟩
    rw [hcc] at HCK hc ⊢
    have hcb : (cc == 0) = false := by rw [beq_eq_false_iff_ne]; exact hc
    have hcb2 : (cc != 0) = true := by rw [bne, hcb]; rfl
    clear hc hcc HMU
    go_enter Try.func46, Try.ntmps46
    have HX0 := Lib.hid (Bx2.new w (.string M) (.string O) 24)
    have HB0 := Lib.hid ((Below.refl w.heap.size w).alloc (Nat.le_refl _) (.cells #[.string M, .string O] 24))
    obtain ⟨W0, hW0⟩ : ∃ W0, w.alloc (.cells #[.string M, .string O] 24) = W0 := ⟨_, rfl⟩
    rw [hW0] at HX0 HB0
    have c0 := HX0.out.c0
    have c1 := HX0.out.c1
    have hs := sln_alloc W0 [a, b] 22 (by simp)
    have hba : Below W0.heap.size W0 (W0.alloc (.cells #[.string a, .string b] 22)) := (Below.refl _ _).alloc (Nat.le_refl _) _
    have HCC := Lib.hid (HCK.out _ _ hs)
    have HB1 := Lib.hid (HB0.out.trans (hba.mono HB0.out.size))
    clear hs hba
    go_wp2_with fail
    try rw [hW0]
    clear hW0
    refine HCC.out.mono ?_
    rintro e w1 ⟨rfl, hb⟩
    have HB2 := Lib.hid (HB1.out.trans (hb.mono HB1.out.size))
    clear hb
    go_wp2
    go_ret2
    exact ⟨rfl, HB2.out⟩
theorem slz_alloc1 (w : World) (b1 : Bool) (s1 : ByteArray) (T : TypeId) : SlZ (w.alloc (.cells #[.bool b1, .string s1] T)) (some ⟨w.heap.size, 0, none⟩) 1 1 [(b1, s1)] := by
  have h := Bx2.new w (.bool b1) (.string s1) T
  refine ⟨rfl, Nat.le_refl _, by omega, w.heap.size, 0, fun _ => rfl, fun k z hk => ?_⟩
  match k, hk with
  | 0, hk => cases hk; exact ⟨h.c0, h.c1⟩
set_option maxRecDepth 100000 in
set_option maxHeartbeats 2000000 in
theorem pw_Exp (M O x : ByteArray) (bb : Bool) (bt : ByteArray) (hM : M.size ≤ 8) (hO : O.size ≤ 8) (hx : x.size ≤ 1000) (hb : bt.size ≤ 1000) (w : World) : Calls Try.prog 10 #[gV M O, .string x, zV bb bt] w (Ret (prR M O [x] [(bb, bt)]) w) := by
  have HPR := Lib.hid (fun (A B : Option Addr) (w : World) (hl : SlN w A 1 1 [x]) (hz : SlZ w B 1 1 [(bb, bt)]) => pw_Product M O [x] [(bb, bt)] A B 1 1 1 1 hM hO (by intro s hs; simp only [List.mem_cons, List.mem_nil_iff, or_false] at hs; subst hs; exact hx) (by intro z hz; simp only [List.mem_cons, List.mem_nil_iff, or_false] at hz; subst hz; exact hb) (by omega) (by omega) w hl hz)
  obtain ⟨rs, rc, hpr⟩ : ∃ s c, prR M O [x] [(bb, bt)] = .tuple #[.string s, .int .i64 c] := by
    unfold prR
    split
    · exact ⟨_, _, rfl⟩
    · exact ⟨_, _, rfl⟩
  rw [hpr] at HPR ⊢
  clear hM hO hx hb hpr
  unfold gV zV at *
  have hx0 := (Bx2.new w (.string M) (.string O) 24).next ((Below.refl _ _).alloc (Nat.le_refl _) (.cells #[.bool bb, .string bt] 38))
  have hy0 : Bx2 ((w.alloc (.cells #[.string M, .string O] 24)).alloc (.cells #[.bool bb, .string bt] 38)) (w.heap.size + 1) (.bool bb) (.string bt) 38 := by
    have := Bx2.new (w.alloc (.cells #[.string M, .string O] 24)) (.bool bb) (.string bt) 38
    rwa [World.size_alloc] at this
  have HB0 := Lib.hid (((Below.refl w.heap.size w).alloc (Nat.le_refl _) (.cells #[.string M, .string O] 24)).alloc (by simp) (.cells #[.bool bb, .string bt] 38))
  obtain ⟨W0, hW0⟩ : ∃ W0, (w.alloc (.cells #[.string M, .string O] 24)).alloc (.cells #[.bool bb, .string bt] 38) = W0 := ⟨_, rfl⟩
  rw [hW0] at hx0 hy0 HB0
  have hs1 := sln_alloc W0 [x] 22 (by simp)
  have hb1 : Below W0.heap.size W0 (W0.alloc (.cells #[.string x] 22)) := (Below.refl _ _).alloc (Nat.le_refl _) _
  have hs2 := slz_alloc1 (W0.alloc (.cells #[.string x] 22)) bb bt 38
  have hb2 : Below (W0.alloc (.cells #[.string x] 22)).heap.size (W0.alloc (.cells #[.string x] 22)) ((W0.alloc (.cells #[.string x] 22)).alloc (.cells #[.bool bb, .string bt] 38)) := (Below.refl _ _).alloc (Nat.le_refl _) _
  have HPP := Lib.hid (HPR.out _ _ _ (SlN.kept hb2 (Nat.le_refl _) hs1) hs2)
  have HBB := Lib.hid (HB0.out.trans ((hb1.trans (hb2.mono hb1.size)).mono HB0.out.size))
  rw [World.size_alloc] at HPP
  have c0 := hx0.c0
  have c1 := hx0.c1
  have hy1 := hy0.next hb1
  have d0 := hy1.c0
  have d1 := hy1.c1
  clear hs1 hb1 hs2 hb2 hx0 hy0 hy1
  go_enter Try.func10, Try.ntmps10
  go_wp2_with fail
  try rw [hW0]
  clear hW0
  refine HPP.out.mono ?_
  rintro e w1 ⟨rfl, hb⟩
  have HB1 := Lib.hid (HBB.out.trans (hb.mono HBB.out.size))
  clear hb
  go_wp2
  go_ret2
  exact ⟨rfl, HB1.out⟩
end Go.Proofs.Ytnnfgphioapmnaa

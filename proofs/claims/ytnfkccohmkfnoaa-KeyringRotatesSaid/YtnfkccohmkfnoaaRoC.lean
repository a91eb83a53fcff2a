/- Walk: dominoref58.Message. -/
import Derived.Test.YtnfkccohmkfnoaaKyT
import Derived.Test.YtnfkccohmkfnoaaRoB
set_option linter.unusedVariables false
set_option linter.unusedSimpArgs false
namespace Go.Proofs.Ytnfkccohmkfnoaa
open Go.RowKit


/-- Seven items in a block; the fifth is a list. -/
theorem row7K {w : World} {T : TypeId} {fr : Nat × Nat} {b : Nat} {k0 k1 k2 k3 k4 k5 k6 : Int} {n0 n1 n2 n3 n4 n5 n6 t0 t1 t2 t3 t4 t5 t6 : ByteArray} {A3 A4 : Option Addr} {l3 c3 l4 c4 : Nat} {i3 i4 : List It} {ok : Nat → Prop}
    (hb : w.heap[b]? = some (.cells #[.int .i64 k0, .string n0, .string t0, .slice none 0 0, .int .i64 k1, .string n1, .string t1, .slice none 0 0, .int .i64 k2, .string n2, .string t2, .slice none 0 0, .int .i64 k3, .string n3, .string t3, .slice A3 l3 c3, .int .i64 k4, .string n4, .string t4, .slice A4 l4 c4, .int .i64 k5, .string n5, .string t5, .slice none 0 0, .int .i64 k6, .string n6, .string t6, .slice none 0 0] T fr))
    (hok : ok b) (h3 : SlAt w ok A3 l3 c3 i3) (h4 : SlAt w ok A4 l4 c4 i4) :
    SlAt w ok (some ⟨b, 0, none⟩) 7 7 [.mk k0 n0 t0 [], .mk k1 n1 t1 [], .mk k2 n2 t2 [], .mk k3 n3 t3 i3, .mk k4 n4 t4 i4, .mk k5 n5 t5 [], .mk k6 n6 t6 []] := by
  have hc := fun k => Lib.cell_of_heap hb (j := k)
  refine ⟨rfl, Nat.le_refl _, by omega, b, 0, fun _ => ⟨rfl, hok⟩, ?_⟩
  exact ⟨CellsAt.mk' (hc 0) (hc 1) (hc 2) (hc 3) (SlAt.nil _ _), CellsAt.mk' (hc 4) (hc 5) (hc 6) (hc 7) (SlAt.nil _ _), CellsAt.mk' (hc 8) (hc 9) (hc 10) (hc 11) (SlAt.nil _ _), CellsAt.mk' (hc 12) (hc 13) (hc 14) (hc 15) h3, CellsAt.mk' (hc 16) (hc 17) (hc 18) (hc 19) h4, CellsAt.mk' (hc 20) (hc 21) (hc 22) (hc 23) (SlAt.nil _ _), CellsAt.mk' (hc 24) (hc 25) (hc 26) (hc 27) (SlAt.nil _ _), trivial⟩
theorem sln_bx4 {W : World} {B : Nat} {a b c d : ByteArray} {T : TypeId} (h : BxC W B #[.string a, .string b, .string c, .string d] T) : SlN W (some ⟨B, 0, none⟩) 4 4 [a, b, c, d] := by
  refine ⟨rfl, Nat.le_refl _, by omega, B, 0, fun _ => rfl, fun k s hk => ?_⟩
  match k, hk with
  | 0, hk => cases hk; exact h.cell 0
  | 1, hk => cases hk; exact h.cell 1
  | 2, hk => cases hk; exact h.cell 2
  | 3, hk => cases hk; exact h.cell 3
set_option maxRecDepth 100000 in
set_option maxHeartbeats 8000000 in
theorem r58_Message (v : Ver) (A : Option Addr) (n c : Nat) (w : World) (hs : SlN w A n c v.kr) (hn : n ≤ 100) (hz : SzL v.str) : Calls Try.prog 27 #[.agg (v.arr (.slice A n c))] w (RetSE v.msg w) := by
  have hzn : SzL v.nums := fun s h => hz s (by simp only [Ver.nums, Ver.ten, Ver.str, Ver.keyStr, List.mem_append, List.mem_cons, List.mem_nil_iff, or_false] at h ⊢; rcases h with (h | h | h | h | h | h | h | h | h | h) | h <;> simp [h])
  obtain ⟨cs, hcs⟩ : ∃ cs, v.arr (.slice A n c) = cs := ⟨_, rfl⟩
  rw [hcs]
  have HVA := Lib.hid hcs
  have HSW := Lib.hid hs
  have HZ := Lib.hid hz
  have HZN := Lib.hid hzn
  obtain ⟨W, hW⟩ : ∃ W, w.alloc (.cells cs 38) = W := ⟨_, rfl⟩
  have hX : BxC W w.heap.size cs 38 := by rw [← hW]; exact BxC.new w _ _
  have HX := Lib.hid hX
  have HB := Lib.hid (show Below w.heap.size w W from by rw [← hW]; exact (Below.refl _ _).alloc (Nat.le_refl _) _)
  obtain ⟨R, hR⟩ : ∃ R, w.heap.size = R := ⟨_, rfl⟩
  have HR := Lib.hid hR
  go_enter Try.func27, Try.ntmps27
  clear hs hz hzn hcs
  rw [hR] at hX HX
  go_upto_region 1 with fail
  try rw [hW]
  try rw [hR]
  clear hW hR
  have x2 : W.drew.cell? ⟨R, 2, none⟩ = some (.string v.kn) := (hX.cell 2).trans (by rw [← HVA.out]; rfl)
  have x3 : W.drew.cell? ⟨R, 3, none⟩ = some (.string v.km) := (hX.cell 3).trans (by rw [← HVA.out]; rfl)
  have x4 : W.drew.cell? ⟨R, 4, none⟩ = some (.string v.ko) := (hX.cell 4).trans (by rw [← HVA.out]; rfl)
  have x5 : W.drew.cell? ⟨R, 5, none⟩ = some (.string v.kz) := (hX.cell 5).trans (by rw [← HVA.out]; rfl)
  have x6 : W.drew.cell? ⟨R, 6, none⟩ = some (.string v.ks) := (hX.cell 6).trans (by rw [← HVA.out]; rfl)
  have x7 : W.drew.cell? ⟨R, 7, none⟩ = some (.slice A n c) := (hX.cell 7).trans (by rw [← HVA.out]; rfl)
  have x8 : W.drew.cell? ⟨R, 8, none⟩ = some (.string v.ku) := (hX.cell 8).trans (by rw [← HVA.out]; rfl)
  have x9 : W.drew.cell? ⟨R, 9, none⟩ = some (.string v.kh) := (hX.cell 9).trans (by rw [← HVA.out]; rfl)
  have x10 : W.drew.cell? ⟨R, 10, none⟩ = some (.string v.sm) := (hX.cell 10).trans (by rw [← HVA.out]; rfl)
  have x11 : W.drew.cell? ⟨R, 11, none⟩ = some (.string v.so) := (hX.cell 11).trans (by rw [← HVA.out]; rfl)
  have x12 : W.drew.cell? ⟨R, 12, none⟩ = some (.string v.sg) := (hX.cell 12).trans (by rw [← HVA.out]; rfl)
  have x13 : W.drew.cell? ⟨R, 13, none⟩ = some (.string v.sy) := (hX.cell 13).trans (by rw [← HVA.out]; rfl)
  clear hX
  rename_i K6 hK6
  have rest : ∀ (P Q : Nat) (W7 : World), BxC W7 P (v.key (.slice A n c)) 32 → BxC W7 Q v.sgn 34 → Below W.drew.heap.size W.drew W7 → K6 { tmps := #[.agg cs, .pointer (some ⟨R, 0, none⟩), .string ⟨#[]⟩, .int .i64 0, .pointer (some ⟨P, 0, none⟩), .pointer (some ⟨Q, 0, none⟩), undef, undef, undef, undef, .pointer (some ⟨R, 2, none⟩), .agg #[.string v.kn, .string v.km, .string v.ko, .string v.kz, .string v.ks, .slice A n c, .string v.ku, .string v.kh], .pointer (some ⟨R, 10, none⟩), .agg #[.string v.sm, .string v.so, .string v.sg, .string v.sy], undef, undef, undef, undef, undef, undef, undef, undef, undef, undef, undef, undef, undef, undef, undef, undef, undef, undef, undef, undef, undef, undef, undef, undef, undef, undef, undef, undef, undef, undef, undef, undef, undef, undef, undef, undef, undef, undef, undef, undef, undef, undef, undef, undef, undef, undef, undef, undef, undef, undef, undef, undef, undef, undef, undef, undef, undef, undef, undef, undef, undef, undef, undef, undef, undef, undef, undef, undef, undef, undef, undef, undef, undef, undef, undef, undef, undef, undef, undef, undef, undef, undef, undef, undef, undef, undef, undef, undef, undef, undef, undef, undef, undef, undef, undef, undef, undef, undef, undef, undef, undef, undef, undef, undef, undef, undef, undef, undef, undef, undef, undef, undef, undef, undef, undef, undef, undef, undef, undef, undef, undef, undef, undef, undef, undef, undef], defers := [] } W7 := by
    intro P Q W7 hP hQ hL
    clear x2 x3 x4 x5 x6 x7 x8 x9 x10 x11 x12 x13
    have hbW : Below W.heap.size W W7 := ((Below.refl _ _).drew).trans hL
    have HB7 := Lib.hid (HB.out.trans (hbW.mono HB.out.size))
    have HX7 := Lib.hid (HX.out.next hbW)
    have HP := Lib.hid hP
    have HQ := Lib.hid hQ
    have q0 : W7.cell? ⟨Q, 0, none⟩ = some (.string v.sm) := hQ.cell 0
    have q1 : W7.cell? ⟨Q, 1, none⟩ = some (.string v.so) := hQ.cell 1
    have q2 : W7.cell? ⟨Q, 2, none⟩ = some (.string v.sg) := hQ.cell 2
    have q3 : W7.cell? ⟨Q, 3, none⟩ = some (.string v.sy) := hQ.cell 3
    obtain ⟨W8, hW8⟩ : ∃ W8, W7.alloc (.cells #[.string v.sm, .string v.so, .string v.sg, .string v.sy] 27) = W8 := ⟨_, rfl⟩
    have hb8 : Below W7.heap.size W7 W8 := by rw [← hW8]; exact (Below.refl _ _).alloc (Nat.le_refl _) _
    have hP8 := hP.next hb8
    have p1 : W8.cell? ⟨P, 1, none⟩ = some (.string v.km) := hP8.cell 1
    have p2 : W8.cell? ⟨P, 2, none⟩ = some (.string v.ko) := hP8.cell 2
    have p3 : W8.cell? ⟨P, 3, none⟩ = some (.string v.kz) := hP8.cell 3
    have p4 : W8.cell? ⟨P, 4, none⟩ = some (.string v.ks) := hP8.cell 4
    have p6 : W8.cell? ⟨P, 6, none⟩ = some (.string v.ku) := hP8.cell 6
    have p7 : W8.cell? ⟨P, 7, none⟩ = some (.string v.kh) := hP8.cell 7
    have HSG := Lib.hid (show SlN W8 (some ⟨W7.heap.size, 0, none⟩) 4 4 [v.sm, v.so, v.sg, v.sy] from by rw [← hW8]; exact sln_alloc W7 [v.sm, v.so, v.sg, v.sy] 27 (by simp))
    obtain ⟨S, hS⟩ : ∃ S, W7.heap.size = S := ⟨_, rfl⟩
    have hSl : S < W8.heap.size := by rw [← hW8, World.size_alloc, hS]; omega
    rw [hS] at HSG
    obtain ⟨W9, hW9⟩ : ∃ W9, W8.alloc (.cells #[.string v.km, .string v.ko, .string v.kz, .string v.ks, .string v.ku, .string v.kh] 27) = W9 := ⟨_, rfl⟩
    have hb9 : Below W8.heap.size W8 W9 := by rw [← hW9]; exact (Below.refl _ _).alloc (Nat.le_refl _) _
    have hP9 := hP8.next hb9
    have p5 : W9.cell? ⟨P, 5, none⟩ = some (.slice A n c) := hP9.cell 5
    have HOWN := Lib.hid (show W9.ownsRow W8.heap.size 27 1 (.slice (some ⟨W8.heap.size, 0, none⟩) 6 6) 6 ([v.km, v.ko, v.kz, v.ks, v.ku, v.kh].map Value.string) from by rw [← hW9]; exact own_alloc W8 [v.km, v.ko, v.kz, v.ks, v.ku, v.kh] 27 W8.heap.size (Nat.le_refl _) (by show 6 ≤ maxLen; decide))
    have hT9 : W8.heap.size < W9.heap.size := by rw [← hW9, World.size_alloc]; omega
    obtain ⟨T, hT⟩ : ∃ T, W8.heap.size = T := ⟨_, rfl⟩
    rw [hT] at HOWN hT9
    have HB79 := Lib.hid (hb8.trans (hb9.mono hb8.size))
    have HSG9 := Lib.hid (HSG.out.kept hb9 (Nat.le_refl _))
    have HSW9 := Lib.hid (show SlN W9 A n c v.kr from HSW.out.kept (HB7.out.trans (HB79.out.mono HB7.out.size)) (Nat.le_refl _))
    have HST := Lib.hid (show R < T ∧ S < T ∧ T < W9.heap.size from ⟨by have h1 := HX7.out.lt; have h2 := hb8.size; omega, by omega, hT9⟩)
    have HPT := Lib.hid (show P < T from by have h1 := HP.out.lt; have h2 := hb8.size; omega)
    have HX9 := Lib.hid (HX7.out.next HB79.out)
    have HP9 := Lib.hid hP9
    have HSB := Lib.hid (show BxC W9 S #[.string v.sm, .string v.so, .string v.sg, .string v.sy] 27 from by
      have h : BxC W8 S #[.string v.sm, .string v.so, .string v.sg, .string v.sy] 27 := by rw [← hW8, ← hS]; exact BxC.new _ _ _
      exact h.next hb9)
    have HB9 := Lib.hid (HB7.out.trans (HB79.out.mono HB7.out.size))
    clear hbW hP hQ hL hb8 hb9 hP8 hP9 hSl hT9
    refine hK6 _ _ ?_
    go_upto_region 3 with fail
    try rw [hW8]
    try rw [hS]
    rename_i K7 hK7
    have rest3 : ∀ (g cap : Nat) (W10 : World), W10.ownsRow T 27 1 (.slice (some ⟨g, 0, none⟩) (6 + n) cap) (6 + n) (([v.km, v.ko, v.kz, v.ks, v.ku, v.kh] ++ v.kr).map Value.string) → Below T W9 W10 → K7 { tmps := #[.agg cs, .pointer (some ⟨R, 0, none⟩), .string ⟨#[]⟩, .int .i64 0, .pointer (some ⟨P, 0, none⟩), .pointer (some ⟨Q, 0, none⟩), .slice (some ⟨S, 0, none⟩) 4 4, .slice (some ⟨g, 0, none⟩) (6 + n) cap, undef, undef, .pointer (some ⟨R, 2, none⟩), .agg #[.string v.kn, .string v.km, .string v.ko, .string v.kz, .string v.ks, .slice A n c, .string v.ku, .string v.kh], .pointer (some ⟨R, 10, none⟩), .agg #[.string v.sm, .string v.so, .string v.sg, .string v.sy], .pointer (some ⟨Q, 0, none⟩), .pointer (some ⟨Q, 0, none⟩), .string v.sm, .pointer (some ⟨Q, 0, none⟩), .pointer (some ⟨Q, 1, none⟩), .string v.so, .pointer (some ⟨Q, 2, none⟩), .string v.sg, .pointer (some ⟨Q, 3, none⟩), .string v.sy, .slice (some ⟨S, 0, none⟩) 4 4, .pointer (some ⟨P, 1, none⟩), .pointer (some ⟨P, 1, none⟩), .string v.km, .pointer (some ⟨P, 1, none⟩), .pointer (some ⟨P, 2, none⟩), .string v.ko, .pointer (some ⟨P, 3, none⟩), .string v.kz, .pointer (some ⟨P, 4, none⟩), .string v.ks, .pointer (some ⟨P, 6, none⟩), .string v.ku, .pointer (some ⟨P, 7, none⟩), .string v.kh, .slice (some ⟨T, 0, none⟩) 6 6, .pointer (some ⟨P, 5, none⟩), .slice A n c, .slice (some ⟨g, 0, none⟩) (6 + n) cap, undef, undef, undef, undef, undef, undef, undef, undef, undef, undef, undef, undef, undef, undef, undef, undef, undef, undef, undef, undef, undef, undef, undef, undef, undef, undef, undef, undef, undef, undef, undef, undef, undef, undef, undef, undef, undef, undef, undef, undef, undef, undef, undef, undef, undef, undef, undef, undef, undef, undef, undef, undef, undef, undef, undef, undef, undef, undef, undef, undef, undef, undef, undef, undef, undef, undef, undef, undef, undef, undef, undef, undef, undef, undef, undef, undef, undef, undef, undef, undef, undef, undef, undef, undef, undef, undef, undef, undef, undef, undef, undef, undef, undef, undef, undef, undef, undef], defers := [] } W10 := by
      intro g cap W10 hown hL
      clear q0 q1 q2 q3 p1 p2 p3 p4 p5 p6 p7
      have HOW := Lib.hid hown
      have HL10 := Lib.hid hL
      have hT10 : T ≤ W10.heap.size := by have h1 := hL.size; have h2 := HST.out; omega
      have hSB10 : BxC W10 S #[.string v.sm, .string v.so, .string v.sg, .string v.sy] 27 := (hL.block S HST.out.2.1).trans HSB.out
      have hcS := (sln_bx4 hSB10).cells
      have HSB10 := Lib.hid hSB10
      have hgT := (hown.lt g rfl).1
      obtain ⟨i0, hi, iz0, iz1, iz2⟩ := info_parts nat_info
      clear hown hL hSB10
      refine hK7 _ _ ?_
      go_wp2_with (at_builtin; refine wpList_append_lies _ rfl (.tmp 43) (.tmp 44) 30 rfl T 27 i0 _ 1 16 Try.underlying30 hi iz0 iz1 iz2 rfl (by decide) _ (6 + n) (([v.km, v.ko, v.kz, v.ks, v.ku, v.kh] ++ v.kr).map Value.string) rfl HOW.out ⟨S, 0, none⟩ 4 4 ([v.sm, v.so, v.sg, v.sy].map Value.string) rfl rfl hcS (strs_one _) (by decide) ?n5 ?n6 hT10 _ rfl ?_)
      case n5 => unfold maxLen; omega
      case n6 => omega
      intro g2 cap2 W11 hown2 hgrow2 hat2 hlt2
      have hL2 : Below T W10 W11 := (Below.refl _ _).grown hgrow2 hT10 (fun k e => by simp only [Value.ownBlock, Option.some.injEq] at e; omega)
      obtain ⟨L, hLL⟩ : ∃ L, [v.km, v.ko, v.kz, v.ks, v.ku, v.kh] ++ v.kr ++ [v.sm, v.so, v.sg, v.sy] = L := ⟨_, rfl⟩
      obtain ⟨hl3, A3, c3, hv3, hs3⟩ := SlN.of_owns (l := L) (by rw [← hLL, List.map_append]; exact hown2)
      simp only [Value.slice.injEq, true_and] at hv3
      obtain ⟨rfl, rfl⟩ := hv3
      have HS3 := Lib.hid hs3
      have HL3 := Lib.hid hl3
      have HLL := Lib.hid hLL
      have hcap3 := hs3.2.1
      have hcm3 := hs3.2.2.1
      have hL9 : Below T W9 W11 := HL10.out.trans hL2
      have HX11 := Lib.hid (show BxC W11 R cs 38 from (hL9.block R HST.out.1).trans HX9.out)
      have HP11 := Lib.hid (show BxC W11 P (v.key (.slice A n c)) 32 from (hL9.block P HPT.out).trans HP9.out)
      have HSB11 := Lib.hid (show BxC W11 S #[.string v.sm, .string v.so, .string v.sg, .string v.sy] 27 from (hL9.block S HST.out.2.1).trans HSB.out)
      have HB11 := Lib.hid (HB9.out.trans (hL9.mono (by have h1 := HST.out.1; have h2 := HR.out; omega)))
      have HVL := Lib.hid (show ∀ s ∈ v.nums, s ∈ L from fun s h => by
        rw [← hLL]
        simp only [Ver.nums, Ver.ten, List.mem_append, List.mem_cons, List.mem_nil_iff, or_false] at h ⊢
        rcases h with (h | h | h | h | h | h | h | h | h | h) | h <;> simp [h])
      have HLV := Lib.hid (show ∀ s ∈ L, s ∈ v.nums from fun s h => by
        rw [← hLL] at h
        simp only [Ver.nums, Ver.ten, List.mem_append, List.mem_cons, List.mem_nil_iff, or_false] at h ⊢
        rcases h with ((h | h | h | h | h | h) | h) | (h | h | h | h) <;> simp [h])
      obtain ⟨m, hm⟩ : ∃ m, 6 + n + 4 = m := ⟨_, rfl⟩
      have hmn : m ≤ 110 := by omega
      rw [hm] at HS3 HL3 hcap3 ⊢
      have b0 : W11.cell? ⟨R, 0, none⟩ = some (.string v.name) := (HX11.out.cell 0).trans (by rw [← HVA.out]; rfl)
      have b1 : W11.cell? ⟨R, 1, none⟩ = some (.int .i64 v.num) := (HX11.out.cell 1).trans (by rw [← HVA.out]; rfl)
      have b14 : W11.cell? ⟨R, 14, none⟩ = some (.int .i64 v.fr) := (HX11.out.cell 14).trans (by rw [← HVA.out]; rfl)
      have b15 : W11.cell? ⟨R, 15, none⟩ = some (.int .i64 v.to) := (HX11.out.cell 15).trans (by rw [← HVA.out]; rfl)
      have p0 : W11.cell? ⟨P, 0, none⟩ = some (.string v.kn) := HP11.out.cell 0
      have hzn : v.name.size ≤ 9223372036854775807 := HZ.out _ (by simp [Ver.str])
      clear hown2 hgrow2 hat2 hlt2 hL2 hL9 hl3 hs3 hLL hcS hgT hi iz0 iz1 iz2 hT10
      go_wp2
      go_loop [8] (fun i => ∃ j : Nat, j ≤ m ∧ i = .int .i64 j ∧ ∀ k s, k < j → L[k]? = some s → nvalid s = true) (fun i => m - (intOf i).toNat)
      case atStart => exact ⟨0, Nat.zero_le _, rfl, fun k s h => absurd h (Nat.not_lt_zero _)⟩
      case round =>
        obtain ⟨j, hj, rfl, hall⟩ := hrel
        have HALL := Lib.hid hall
        clear hall
        by_cases hlt : j < m
        · obtain ⟨s, he⟩ : ∃ s, L[j]? = some s := ⟨_, List.getElem?_eq_getElem (by rw [HL3.out]; exact hlt)⟩
          have c0 := HS3.out.get? j he
          rw [Nat.zero_add] at c0
          have hss : s.size ≤ 9223372036854775807 := HZN.out _ (HLV.out _ (List.mem_of_getElem? he))
          have HE := Lib.hid he
          clear he
          cases hv : nvalid s with
          | true =>
            have HV := Lib.hid hv
            clear hv
            go_wp2_with fail
            refine (r01_Valid s hss _).mono ?_
            rintro e w1 ⟨rfl, rfl⟩
            rw [HV.out]
            go_wp2
            go_round
            case rel => exact ⟨j + 1, by omega, by go_num, fun k s' hk hs => by
              by_cases e : k = j
              · subst e; rw [HE.out] at hs; cases hs; exact HV.out
              · exact HALL.out k s' (by omega) hs⟩
            case measure => simp [intOf]; omega
          | false =>
            have HV := Lib.hid hv
            have HM := Lib.hid (show v.msg = (⟨#[]⟩, 3) from by
              have : v.okN = false := by
                unfold Ver.okN
                rw [List.all_eq_false]
                exact ⟨s, HLV.out _ (List.mem_of_getElem? HE.out), by rw [HV.out]; decide⟩
              unfold Ver.msg
              rw [if_pos this])
            clear hv
            go_wp2_with fail
            refine (r01_Valid s hss _).mono ?_
            rintro e w1 ⟨rfl, rfl⟩
            rw [HV.out]
            go_wp2
            go_ret2
            exact ⟨by rw [HM.out]; rfl, HB11.out⟩
        · obtain rfl : j = m := by omega
          have HOK := Lib.hid (show v.okN = true from by
            unfold Ver.okN
            rw [List.all_eq_true]
            intro s hs
            obtain ⟨k, hk⟩ := List.getElem?_of_mem (HVL.out s hs)
            exact HALL.out k s (by rw [← HL3.out]; exact (List.getElem?_eq_some_iff.1 hk).1) hk)
          clear hlt hj
          cases h1 : knameB v.name with
          | false =>
            have HM := Lib.hid (show v.msg = (⟨#[]⟩, 1) from by unfold Ver.msg; rw [HOK.out, h1]; rfl)
            have H1 := Lib.hid h1
            clear h1
            go_wp2_with fail
            refine (r29_Name v.name _ hzn).mono ?_
            rintro e w8 ⟨rfl, rfl⟩
            rw [H1.out]
            go_wp2
            go_ret2
            exact ⟨by rw [HM.out]; rfl, HB11.out⟩
          | true =>
            have H1 := Lib.hid h1
            clear h1
            cases h2 : (v.kn.toList == v.name.toList) with
            | false =>
              have HM := Lib.hid (show v.msg = (⟨#[]⟩, 1) from by
                have hne : v.kn ≠ v.name := fun e => by rw [e] at h2; simp at h2
                unfold Ver.msg
                rw [HOK.out, H1.out, decide_eq_false hne]; rfl)
              have h2' : (v.kn.toList != v.name.toList) = true := by rw [bne, h2]; rfl
              go_wp2_with fail
              refine (r29_Name v.name _ hzn).mono ?_
              rintro e w8 ⟨rfl, rfl⟩
              rw [H1.out]
              go_wp2
              go_ret2
              exact ⟨by rw [HM.out]; rfl, HB11.out⟩
            | true =>
              have HEQ := Lib.hid (show v.kn = v.name from sinj (eq_of_beq h2))
              have h2' : (v.kn.toList != v.name.toList) = false := by rw [bne, h2]; rfl
              have hms : v.msg = (if v.far then (⟨#[]⟩, 2) else encS v.it) := by
                unfold Ver.msg
                rw [HOK.out, H1.out, HEQ.out, decide_eq_true rfl]; rfl
              have HMS := Lib.hid hms
              clear hms
              by_cases c1 : v.num < 1
              · skip
                have HM := Lib.hid (show v.msg = (⟨#[]⟩, 2) from by rw [HMS.out, if_pos (by unfold Ver.far; simp only [c1, true_or, or_true])])
                go_wp2_with fail
                refine (r29_Name v.name _ hzn).mono ?_
                rintro e w8 ⟨rfl, rfl⟩
                rw [H1.out]
                go_wp2
                go_ret2
                exact ⟨by rw [HM.out]; rfl, HB11.out⟩
              · by_cases c2 : 4096 < v.num
                · skip
                  have HM := Lib.hid (show v.msg = (⟨#[]⟩, 2) from by rw [HMS.out, if_pos (by unfold Ver.far; simp only [c2, true_or, or_true])])
                  go_wp2_with fail
                  refine (r29_Name v.name _ hzn).mono ?_
                  rintro e w8 ⟨rfl, rfl⟩
                  rw [H1.out]
                  go_wp2
                  go_ret2
                  exact ⟨by rw [HM.out]; rfl, HB11.out⟩
                · by_cases c3 : v.fr < 0
                  · skip
                    have HM := Lib.hid (show v.msg = (⟨#[]⟩, 2) from by rw [HMS.out, if_pos (by unfold Ver.far; simp only [c3, true_or, or_true])])
                    go_wp2_with fail
                    refine (r29_Name v.name _ hzn).mono ?_
                    rintro e w8 ⟨rfl, rfl⟩
                    rw [H1.out]
                    go_wp2
                    go_ret2
                    exact ⟨by rw [HM.out]; rfl, HB11.out⟩
                  · by_cases c4 : v.to < v.fr
                    · skip
                      have HM := Lib.hid (show v.msg = (⟨#[]⟩, 2) from by rw [HMS.out, if_pos (by unfold Ver.far; simp only [c4, true_or, or_true])])
                      go_wp2_with fail
                      refine (r29_Name v.name _ hzn).mono ?_
                      rintro e w8 ⟨rfl, rfl⟩
                      rw [H1.out]
                      go_wp2
                      go_ret2
                      exact ⟨by rw [HM.out]; rfl, HB11.out⟩
                    · by_cases c5 : 4096 < v.to
                      · skip
                        have HM := Lib.hid (show v.msg = (⟨#[]⟩, 2) from by rw [HMS.out, if_pos (by unfold Ver.far; simp only [c5, true_or, or_true])])
                        go_wp2_with fail
                        refine (r29_Name v.name _ hzn).mono ?_
                        rintro e w8 ⟨rfl, rfl⟩
                        rw [H1.out]
                        go_wp2
                        go_ret2
                        exact ⟨by rw [HM.out]; rfl, HB11.out⟩
                      · skip
                        have HM := Lib.hid (show v.msg = encS v.it from by rw [HMS.out, if_neg (by unfold Ver.far; omega)])
                        go_wp2_with fail
                        refine (r29_Name v.name _ hzn).mono ?_
                        rintro e w8 ⟨rfl, rfl⟩
                        rw [H1.out]
                        go_wp2
                        rename_i K10 hK10
                        have k1 : W11.drew.cell? ⟨P, 1, none⟩ = some (.string v.km) := HP11.out.cell 1
                        have k2 : W11.drew.cell? ⟨P, 2, none⟩ = some (.string v.ko) := HP11.out.cell 2
                        have k3 : W11.drew.cell? ⟨P, 3, none⟩ = some (.string v.kz) := HP11.out.cell 3
                        have k4 : W11.drew.cell? ⟨P, 4, none⟩ = some (.string v.ks) := HP11.out.cell 4
                        have k5 : W11.drew.cell? ⟨P, 5, none⟩ = some (.slice A n c) := HP11.out.cell 5
                        have k6 : W11.drew.cell? ⟨P, 6, none⟩ = some (.string v.ku) := HP11.out.cell 6
                        have k7 : W11.drew.cell? ⟨P, 7, none⟩ = some (.string v.kh) := HP11.out.cell 7
                        have HSL7 := Lib.hid (show SlN W11.drew A n c v.kr from HSW.out.kept HB11.out (Nat.le_refl _))
                        clear b0 b1 b14 b15 p0
                        have rest10 : ∀ (B7 : Nat) (W8 : World) (A7 : Option Addr) (l7 c7 : Nat), BxC W8 B7 #[.int .i64 2, .string ⟨#[]⟩, .string ⟨#[]⟩, .slice A7 l7 c7] 79 → SlAt W8 (fun b => b ≠ B7) A7 l7 c7 v.kit.list → Below W11.drew.heap.size W11.drew W8 → ∀ (z0 z2 z3 z4 z5 z7 z8 z10 z11 z12 z13 z14 z15 z16 z17 z18 z19 z20 z21 z22 z23 z24 z25 z26 z27 z28 z29 z30 z31 z32 z33 z34 z35 z36 z37 z38 z39 z40 z41 z42 z43 z44 z45 z46 z47 z48 z49 z50 z51 z52 z53 z54 z55 z56 z57 z58 z59 z60 z61 z62 z63 z64 z65 z66 z67 z68 z69 z70 z71 z72 z73 z74 z75 z76 z77 z78 z79 z80 z81 z82 z83 z84 z85 z86 z87 z88 z89 z90 z91 z92 z93 z94 z95 z96 z97 z98 z99 z100 z101 z102 z103 z104 z105 z106 z107 z108 z109 z110 z111 z112 z113 z114 z115 z116 z117 z118 z119 z120 z121 z122 z123 z124 z125 z126 z127 z128 z129 z130 z131 z132 z133 z134 z135 z136 z137 z138 z139 : Value), K10 { tmps := #[z0, .pointer (some ⟨R, 0, none⟩), z2, z3, z4, z5, .slice (some ⟨S, 0, none⟩) 4 4, z7, z8, .pointer (some ⟨B7, 0, none⟩), z10, z11, z12, z13, z14, z15, z16, z17, z18, z19, z20, z21, z22, z23, z24, z25, z26, z27, z28, z29, z30, z31, z32, z33, z34, z35, z36, z37, z38, z39, z40, z41, z42, z43, z44, z45, z46, z47, z48, z49, z50, z51, z52, z53, z54, z55, z56, z57, z58, z59, z60, z61, z62, z63, z64, z65, z66, z67, z68, z69, z70, z71, z72, z73, z74, z75, z76, z77, z78, z79, z80, z81, z82, z83, z84, z85, z86, z87, z88, z89, z90, z91, z92, z93, z94, z95, z96, z97, z98, z99, z100, z101, z102, z103, z104, z105, z106, z107, z108, z109, z110, z111, z112, z113, z114, z115, z116, z117, z118, z119, z120, z121, z122, z123, z124, z125, z126, z127, z128, z129, z130, z131, z132, z133, z134, z135, z136, z137, z138, z139], defers := [] } W8 := by
                          intro B7 W8 A7 l7 c7 hT hJ hL z0 z2 z3 z4 z5 z7 z8 z10 z11 z12 z13 z14 z15 z16 z17 z18 z19 z20 z21 z22 z23 z24 z25 z26 z27 z28 z29 z30 z31 z32 z33 z34 z35 z36 z37 z38 z39 z40 z41 z42 z43 z44 z45 z46 z47 z48 z49 z50 z51 z52 z53 z54 z55 z56 z57 z58 z59 z60 z61 z62 z63 z64 z65 z66 z67 z68 z69 z70 z71 z72 z73 z74 z75 z76 z77 z78 z79 z80 z81 z82 z83 z84 z85 z86 z87 z88 z89 z90 z91 z92 z93 z94 z95 z96 z97 z98 z99 z100 z101 z102 z103 z104 z105 z106 z107 z108 z109 z110 z111 z112 z113 z114 z115 z116 z117 z118 z119 z120 z121 z122 z123 z124 z125 z126 z127 z128 z129 z130 z131 z132 z133 z134 z135 z136 z137 z138 z139
                          clear k1 k2 k3 k4 k5 k6 k7
                          have hb8 : Below W11.heap.size W11 W8 := ((Below.refl _ _).drew).trans hL
                          have HX8 := Lib.hid (HX11.out.next hb8)
                          have HB8 := Lib.hid (HB11.out.trans (hb8.mono HB11.out.size))
                          have HSB8 := Lib.hid (HSB11.out.next hb8)
                          have HT8 := Lib.hid hT
                          have HJ8 := Lib.hid hJ
                          clear hb8 hT hJ hL
                          obtain ⟨N, hN⟩ : ∃ N, v.num.toNat = N := ⟨_, rfl⟩
                          obtain ⟨F, hF⟩ : ∃ F, v.fr.toNat = F := ⟨_, rfl⟩
                          obtain ⟨T2, hT2⟩ : ∃ T, v.to.toNat = T := ⟨_, rfl⟩
                          have hN4 : N ≤ 4096 := by omega
                          have hF4 : F ≤ 4096 := by omega
                          have hT4 : T2 ≤ 4096 := by omega
                          have hns : v.name.size ≤ 32 := by
                            have := H1.out
                            unfold knameB at this
                            simp only [Bool.and_eq_true, decide_eq_true_eq] at this
                            exact this.2.2
                          have hwn := Ver.it_weight HOK.out (by rw [HSW.out.1]; exact hn) hns (by omega) (by omega) (by omega)
                          have HIE := Lib.hid (show It.mk 2 ⟨#[]⟩ ⟨#[]⟩ [.mk 1 ⟨#[]⟩ ⟨#[118, 101, 114, 115, 105, 111, 110]⟩ [], .mk 1 ⟨#[]⟩ v.name [], .mk 0 (bstr (encN N)) ⟨#[]⟩ [], .mk 2 ⟨#[]⟩ ⟨#[]⟩ v.kit.list, .mk 2 ⟨#[]⟩ ⟨#[]⟩ ([v.sm, v.so, v.sg, v.sy].map natIt), .mk 0 (bstr (encN F)) ⟨#[]⟩ [], .mk 0 (bstr (encN T2)) ⟨#[]⟩ []] = v.it from by rw [← hN, ← hF, ← hT2]; rfl)
                          have HWE := Lib.hid hwn.1
                          have HNO := Lib.hid hwn.2
                          rw [← HIE.out] at HWE HNO
                          have b0 : W8.drew.cell? ⟨R, 0, none⟩ = some (.string v.name) := (HX8.out.cell 0).trans (by rw [← HVA.out]; rfl)
                          have b1 : W8.drew.cell? ⟨R, 1, none⟩ = some (.int .i64 (N : Int)) := (HX8.out.cell 1).trans (by rw [← HVA.out, show (N : Int) = v.num by omega]; rfl)
                          have b14 : W8.drew.cell? ⟨R, 14, none⟩ = some (.int .i64 (F : Int)) := (HX8.out.cell 14).trans (by rw [← HVA.out, show (F : Int) = v.fr by omega]; rfl)
                          have b15 : W8.drew.cell? ⟨R, 15, none⟩ = some (.int .i64 (T2 : Int)) := (HX8.out.cell 15).trans (by rw [← HVA.out, show (T2 : Int) = v.to by omega]; rfl)
                          have t0 : W8.drew.cell? ⟨B7, 0, none⟩ = some (.int .i64 2) := HT8.out.cell 0
                          have t1 : W8.drew.cell? ⟨B7, 1, none⟩ = some (.string ⟨#[]⟩) := HT8.out.cell 1
                          have t2 : W8.drew.cell? ⟨B7, 2, none⟩ = some (.string ⟨#[]⟩) := HT8.out.cell 2
                          have t3 : W8.drew.cell? ⟨B7, 3, none⟩ = some (.slice A7 l7 c7) := HT8.out.cell 3
                          have HJ8d := Lib.hid (HJ8.out.below (Below.refl _ _).drew (Nat.le_refl _))
                          have HSS8 := Lib.hid (show SlN W8.drew (some ⟨S, 0, none⟩) 4 4 [v.sm, v.so, v.sg, v.sy] from sln_bx4 (show BxC W8.drew S _ 27 from HSB8.out))
                          clear hN hF hT2 hns hwn c1 c2 c3 c4 c5
                          refine hK10 _ _ ?_
                          clear hK10
                          go_wp2
                          refine wp_region_K 18 (Below (W8.drew).heap.size (W8.drew)) (by kernel_rfl) ?_
                          intro hD
                          refine wpAnyK_pureD (i := 1) (d := some 120) (v := ?v15_1b1) (fuel := 22) rfl (by kernel_rfl) (by kernel_rfl) (fun _ _ _ h => h) hD (Below.refl _ _) (.inl ⟨by kernel_rfl, ?y15_1b1⟩) ?n15_1b1
                          case y15_1b1 => intro w' _; go_simp; with_reducible rfl
                          clear hD; intro hD
                          simp only [Act.put, List.setIfInBounds_toArray, set_cons_9]; try simp only [List.set_cons_zero, List.set_cons_succ]
                          refine wpAnyK_takeD (i := 2) (d := some 121) (v := ?v15_2b1) (fuel := 21) rfl (by kernel_rfl) (by kernel_rfl) (by kernel_rfl) (fun _ _ _ h => h) hD (Below.refl _ _) (.inl ⟨by kernel_rfl, ?y15_2b1⟩) ?n15_2b1
                          case y15_2b1 => intro w' hS'; have e0 := cell_kept hS' (Nat.le_refl _) b0; have e1 := cell_kept hS' (Nat.le_refl _) b1; have e2 := cell_kept hS' (Nat.le_refl _) b14; have e3 := cell_kept hS' (Nat.le_refl _) b15; have e4 := cell_kept hS' (Nat.le_refl _) t0; have e5 := cell_kept hS' (Nat.le_refl _) t1; have e6 := cell_kept hS' (Nat.le_refl _) t2; have e7 := cell_kept hS' (Nat.le_refl _) t3; go_simp; with_reducible rfl
                          clear hD; intro hD
                          simp only [Act.put, List.setIfInBounds_toArray, set_cons_9]; try simp only [List.set_cons_zero, List.set_cons_succ]
                          refine wpAnyK_pureD (i := 4) (d := some 123) (v := ?v15_4b1) (fuel := 20) rfl (by kernel_rfl) (by kernel_rfl) (fun _ _ _ h => h) hD (Below.refl _ _) (.inl ⟨by kernel_rfl, ?y15_4b1⟩) ?n15_4b1
                          case y15_4b1 => intro w' _; go_simp; with_reducible rfl
                          clear hD; intro hD
                          simp only [Act.put, List.setIfInBounds_toArray, set_cons_9]; try simp only [List.set_cons_zero, List.set_cons_succ]
                          refine wpAnyK_takeD (i := 5) (d := some 124) (v := ?v15_5b1) (fuel := 19) rfl (by kernel_rfl) (by kernel_rfl) (by kernel_rfl) (fun _ _ _ h => h) hD (Below.refl _ _) (.inl ⟨by kernel_rfl, ?y15_5b1⟩) ?n15_5b1
                          case y15_5b1 => intro w' hS'; have e0 := cell_kept hS' (Nat.le_refl _) b0; have e1 := cell_kept hS' (Nat.le_refl _) b1; have e2 := cell_kept hS' (Nat.le_refl _) b14; have e3 := cell_kept hS' (Nat.le_refl _) b15; have e4 := cell_kept hS' (Nat.le_refl _) t0; have e5 := cell_kept hS' (Nat.le_refl _) t1; have e6 := cell_kept hS' (Nat.le_refl _) t2; have e7 := cell_kept hS' (Nat.le_refl _) t3; go_simp; with_reducible rfl
                          clear hD; intro hD
                          simp only [Act.put, List.setIfInBounds_toArray, set_cons_9]; try simp only [List.set_cons_zero, List.set_cons_succ]
                          refine wpAnyK_takeD (i := 7) (d := some 126) (v := ?v15_7b1) (fuel := 18) rfl (by kernel_rfl) (by kernel_rfl) (by kernel_rfl) (fun _ _ _ h => h) hD (Below.refl _ _) (.inl ⟨by kernel_rfl, ?y15_7b1⟩) ?n15_7b1
                          case y15_7b1 => intro w' hS'; have e0 := cell_kept hS' (Nat.le_refl _) b0; have e1 := cell_kept hS' (Nat.le_refl _) b1; have e2 := cell_kept hS' (Nat.le_refl _) b14; have e3 := cell_kept hS' (Nat.le_refl _) b15; have e4 := cell_kept hS' (Nat.le_refl _) t0; have e5 := cell_kept hS' (Nat.le_refl _) t1; have e6 := cell_kept hS' (Nat.le_refl _) t2; have e7 := cell_kept hS' (Nat.le_refl _) t3; go_simp; with_reducible rfl
                          clear hD; intro hD
                          simp only [Act.put, List.setIfInBounds_toArray, set_cons_9]; try simp only [List.set_cons_zero, List.set_cons_succ]
                          refine wpAnyK_pureD (i := 8) (d := some 127) (v := ?v15_8b1) (fuel := 17) rfl (by kernel_rfl) (by kernel_rfl) (fun _ _ _ h => h) hD (Below.refl _ _) (.inl ⟨by kernel_rfl, ?y15_8b1⟩) ?n15_8b1
                          case y15_8b1 => intro w' _; go_simp; with_reducible rfl
                          clear hD; intro hD
                          simp only [Act.put, List.setIfInBounds_toArray, set_cons_9]; try simp only [List.set_cons_zero, List.set_cons_succ]
                          refine wpAnyK_pureD (i := 10) (d := some 129) (v := ?v15_10b1) (fuel := 16) rfl (by kernel_rfl) (by kernel_rfl) (fun _ _ _ h => h) hD (Below.refl _ _) (.inl ⟨by kernel_rfl, ?y15_10b1⟩) ?n15_10b1
                          case y15_10b1 => intro w' _; go_simp; with_reducible rfl
                          clear hD; intro hD
                          simp only [Act.put, List.setIfInBounds_toArray, set_cons_9]; try simp only [List.set_cons_zero, List.set_cons_succ]
                          refine wpAnyK_takeD (i := 11) (d := some 130) (v := ?v15_11b1) (fuel := 15) rfl (by kernel_rfl) (by kernel_rfl) (by kernel_rfl) (fun _ _ _ h => h) hD (Below.refl _ _) (.inl ⟨by kernel_rfl, ?y15_11b1⟩) ?n15_11b1
                          case y15_11b1 => intro w' hS'; have e0 := cell_kept hS' (Nat.le_refl _) b0; have e1 := cell_kept hS' (Nat.le_refl _) b1; have e2 := cell_kept hS' (Nat.le_refl _) b14; have e3 := cell_kept hS' (Nat.le_refl _) b15; have e4 := cell_kept hS' (Nat.le_refl _) t0; have e5 := cell_kept hS' (Nat.le_refl _) t1; have e6 := cell_kept hS' (Nat.le_refl _) t2; have e7 := cell_kept hS' (Nat.le_refl _) t3; go_simp; with_reducible rfl
                          clear hD; intro hD
                          simp only [Act.put, List.setIfInBounds_toArray, set_cons_9]; try simp only [List.set_cons_zero, List.set_cons_succ]
                          refine wpAnyK_pureD (i := 13) (d := some 132) (v := ?v15_13b1) (fuel := 14) rfl (by kernel_rfl) (by kernel_rfl) (fun _ _ _ h => h) hD (Below.refl _ _) (.inl ⟨by kernel_rfl, ?y15_13b1⟩) ?n15_13b1
                          case y15_13b1 => intro w' _; go_simp; with_reducible rfl
                          clear hD; intro hD
                          simp only [Act.put, List.setIfInBounds_toArray, set_cons_9]; try simp only [List.set_cons_zero, List.set_cons_succ]
                          refine wpAnyK_takeD (i := 14) (d := some 133) (v := ?v15_14b1) (fuel := 13) rfl (by kernel_rfl) (by kernel_rfl) (by kernel_rfl) (fun _ _ _ h => h) hD (Below.refl _ _) (.inl ⟨by kernel_rfl, ?y15_14b1⟩) ?n15_14b1
                          case y15_14b1 => intro w' hS'; have e0 := cell_kept hS' (Nat.le_refl _) b0; have e1 := cell_kept hS' (Nat.le_refl _) b1; have e2 := cell_kept hS' (Nat.le_refl _) b14; have e3 := cell_kept hS' (Nat.le_refl _) b15; have e4 := cell_kept hS' (Nat.le_refl _) t0; have e5 := cell_kept hS' (Nat.le_refl _) t1; have e6 := cell_kept hS' (Nat.le_refl _) t2; have e7 := cell_kept hS' (Nat.le_refl _) t3; go_simp; with_reducible rfl
                          clear hD; intro hD
                          simp only [Act.put, List.setIfInBounds_toArray, set_cons_9]; try simp only [List.set_cons_zero, List.set_cons_succ]
                          refine wpAnyK_one (i := 0) (fuel := 12) (by kernel_rfl) rfl hD ?_
                          clear hD; intro K0 hK0
                          go_wp2_with fail
                          refine (r08_TextV _ _).mono ?_
                          rintro e wz0 ⟨rfl, hb⟩
                          have HB0 := Lib.hid hb
                          clear hb
                          go_wp2
                          refine hK0 _ _ (by exact HB0.out) ?_; clear hK0; intro hS_15_0 hD
                          refine wpAnyK_one (i := 3) (fuel := 11) (by kernel_rfl) rfl hD ?_
                          clear hD; intro K3 hK3
                          go_wp2_with fail
                          refine (r08_TextV _ _).mono ?_
                          rintro e wz3 ⟨rfl, hb⟩
                          have HB3 := Lib.hid hb
                          clear hb
                          go_wp2
                          refine hK3 _ _ (by exact Below.trans hS_15_0 (Below.mono HB3.out (Below.size hS_15_0))) ?_; clear hK3; intro hS_15_3 hD
                          refine wpAnyK_one (i := 6) (fuel := 10) (by kernel_rfl) rfl hD ?_
                          clear hD; intro K6 hK6
                          go_wp2_with fail
                          refine (r58_num N _ (by omega)).mono ?_
                          rintro e wz6 ⟨rfl, hb⟩
                          have HB6 := Lib.hid hb
                          clear hb
                          go_wp2
                          refine hK6 _ _ (by exact Below.trans hS_15_3 (Below.mono HB6.out (Below.size hS_15_3))) ?_; clear hK6; intro hS_15_6 hD
                          refine wpAnyK_one (i := 9) (fuel := 9) (by kernel_rfl) rfl hD ?_
                          clear hD; intro K9 hK9
                          go_wp2_with fail
                          refine (r58_items [v.sm, v.so, v.sg, v.sy] _ 4 4 _ (HSS8.out.kept hS_15_6 (Nat.le_refl _)) (by omega)).mono ?_
                          rintro e wz9 ⟨v9, rfl, ⟨A9, l9, c9, rfl, hs9⟩, hb⟩
                          have HB9 := Lib.hid hb
                          have HI9 := Lib.hid hs9
                          clear hb hs9
                          go_wp2
                          refine hK9 _ _ (by exact Below.trans hS_15_6 (Below.mono HB9.out (Below.size hS_15_6))) ?_; clear hK9; intro hS_15_9 hD
                          refine wpAnyK_one (i := 12) (fuel := 8) (by kernel_rfl) rfl hD ?_
                          clear hD; intro K12 hK12
                          go_wp2_with fail
                          refine (r58_num F _ (by omega)).mono ?_
                          rintro e wz12 ⟨rfl, hb⟩
                          have HB12 := Lib.hid hb
                          clear hb
                          go_wp2
                          refine hK12 _ _ (by exact Below.trans hS_15_9 (Below.mono HB12.out (Below.size hS_15_9))) ?_; clear hK12; intro hS_15_12 hD
                          refine wpAnyK_one (i := 15) (fuel := 7) (by kernel_rfl) rfl hD ?_
                          clear hD; intro K15 hK15
                          go_wp2_with fail
                          refine (r58_num T2 _ (by omega)).mono ?_
                          rintro e wz15 ⟨rfl, hb⟩
                          have HB15 := Lib.hid hb
                          clear hb
                          go_wp2
                          refine hK15 _ _ (by exact Below.trans hS_15_12 (Below.mono HB15.out (Below.size hS_15_12))) ?_; clear hK15; intro hS_15_15 hD
                          refine wpAnyK_one (i := 16) (fuel := 6) (by kernel_rfl) rfl hD ?_
                          clear hD; intro K16 hK16
                          go_wp2
                          refine name_world ?_
                          intro w23 hw23
                          have hb := below_alloc hw23
                          have HR23 := Lib.hid (row7 (bxc_alloc hw23) ((HJ8d.out.below hS_15_15 (Nat.le_refl _)).below hb (Nat.le_refl _)) (((HI9.out.below HB12.out (Nat.le_refl _)).below HB15.out (Nat.le_refl _)).below hb (Nat.le_refl _)))
                          have HB16 := Lib.hid hb
                          clear hb hw23
                          refine hK16 _ _ (by exact Below.trans hS_15_15 (Below.mono HB16.out (Below.size hS_15_15))) ?_; clear hK16; intro hS_15_16 hD
                          refine wpAnyK_one (i := 17) (fuel := 5) (by kernel_rfl) rfl hD ?_
                          clear hD; intro K17 hK17
                          go_wp2_with fail
                          refine (r08_ListK _ _ 7 7 _ _ (by show 7 ≤ 1000000000000; omega) HR23.out).mono ?_
                          rintro e w24 ⟨v24, rfl, hi24, hb⟩
                          have HI24 := Lib.hid hi24
                          have HB17 := Lib.hid hb
                          clear hb hi24
                          go_wp2
                          refine hK17 _ _ (by exact Below.trans hS_15_16 (Below.mono HB17.out (Below.size hS_15_16))) ?_; clear hK17; intro hS_15_17 hD
                          refine wpAnyK_oneT (i := 18) (fuel := 4) (by kernel_rfl) rfl hD (by kernel_rfl) ?_
                          clear hD; intro K18 hK18
                          go_wp2_with fail
                          refine (r08_Encode _ v24 _ _ HWE.out HI24.out).mono ?_
                          rintro e w25 ⟨rfl, hb⟩
                          rw [HIE.out, ← HM.out]
                          have HBL := Lib.hid (Below.trans hS_15_17 (Below.mono hb (Below.size hS_15_17)))
                          obtain ⟨r1, r2, hr⟩ : ∃ r1 r2, v.msg = (r1, r2) := ⟨_, _, rfl⟩
                          rw [hr]
                          have HMR := Lib.hid hr
                          clear hb hr
                          go_wp2
                          refine hK18 _ _ ?_; clear hK18; intro hD
                          refine wpAnyK_pureTD (i := 19) (d := some 138) (v := ?v15_19b1) (fuel := 3) rfl (by kernel_rfl) (by kernel_rfl) (by kernel_rfl) (fun _ _ _ h => h) hD (.inl ⟨by kernel_rfl, ?y15_19b1⟩) ?n15_19b1
                          case y15_19b1 => intro w' _; go_simp; with_reducible rfl
                          clear hD; intro hD
                          simp only [Act.put, List.setIfInBounds_toArray, set_cons_9]; try simp only [List.set_cons_zero, List.set_cons_succ]
                          refine wpAnyK_pureTD (i := 20) (d := some 139) (v := ?v15_20b1) (fuel := 2) rfl (by kernel_rfl) (by kernel_rfl) (by kernel_rfl) (fun _ _ _ h => h) hD (.inl ⟨by kernel_rfl, ?y15_20b1⟩) ?n15_20b1
                          case y15_20b1 => intro w' _; go_simp; with_reducible rfl
                          clear hD; intro hD
                          simp only [Act.put, List.setIfInBounds_toArray, set_cons_9]; try simp only [List.set_cons_zero, List.set_cons_succ]
                          refine wpAnyK_oneT (i := 21) (fuel := 1) (by kernel_rfl) rfl hD (by kernel_rfl) ?_
                          clear hD; intro K21 hK21
                          go_wp2
                          refine hK21 _ _ ?_; clear hK21; intro hD
                          refine wpAnyK_oneT (i := 22) (fuel := 0) (by kernel_rfl) rfl hD (by kernel_rfl) ?_
                          clear hD; intro K22 hK22
                          go_wp2
                          refine hK22 _ _ ?_; clear hK22; intro hD
                          refine wpAnyK_done (by kernel_rfl) ?_ 0
                          clear hD
                          go_wp2
                          go_ret2
                          exact ⟨by rw [HMR.out]; rfl, HB8.out.trans ((((Below.refl _ _).drew).trans HBL.out).mono HB8.out.size)⟩
                        clear hK10
                        refine wp_region_K 27 (Below (W11.drew).heap.size (W11.drew)) (by kernel_rfl) ?_
                        intro hD
                        refine wpAnyK_pureD (i := 0) (d := some 94) (v := ?v14_0b2) (fuel := 26) rfl (by kernel_rfl) (by kernel_rfl) (fun _ _ _ h => h) hD (Below.refl _ _) (.inl ⟨by kernel_rfl, ?y14_0b2⟩) ?n14_0b2
                        case y14_0b2 => intro w' _; go_simp; with_reducible rfl
                        clear hD; intro hD
                        simp only [Act.put, List.setIfInBounds_toArray, set_cons_9]; try simp only [List.set_cons_zero, List.set_cons_succ]
                        refine wpAnyK_pureD (i := 1) (d := some 95) (v := ?v14_1b2) (fuel := 25) rfl (by kernel_rfl) (by kernel_rfl) (fun _ _ _ h => h) hD (Below.refl _ _) (.inl ⟨by kernel_rfl, ?y14_1b2⟩) ?n14_1b2
                        case y14_1b2 => intro w' _; go_simp; with_reducible rfl
                        clear hD; intro hD
                        simp only [Act.put, List.setIfInBounds_toArray, set_cons_9]; try simp only [List.set_cons_zero, List.set_cons_succ]
                        refine wpAnyK_takeSD (i := 2) (d := some 96) (v := ?v14_2b2) (fuel := 24) rfl (by kernel_rfl) (by kernel_rfl) (by kernel_rfl) (fun _ _ _ h => h) hD (Below.refl _ _) (.inl ⟨by kernel_rfl, ?y14_2b2⟩) ?n14_2b2
                        case y14_2b2 => intro w' hS'; have e0 := cell_kept hS' (Nat.le_refl _) k1; have e1 := cell_kept hS' (Nat.le_refl _) k2; have e2 := cell_kept hS' (Nat.le_refl _) k3; have e3 := cell_kept hS' (Nat.le_refl _) k4; have e4 := cell_kept hS' (Nat.le_refl _) k5; have e5 := cell_kept hS' (Nat.le_refl _) k6; have e6 := cell_kept hS' (Nat.le_refl _) k7; go_simp; with_reducible rfl
                        clear hD; intro hD
                        simp only [Act.put, List.setIfInBounds_toArray, set_cons_9]; try simp only [List.set_cons_zero, List.set_cons_succ]
                        refine wpAnyK_pureD (i := 4) (d := some 98) (v := ?v14_4b2) (fuel := 23) rfl (by kernel_rfl) (by kernel_rfl) (fun _ _ _ h => h) hD (Below.refl _ _) (.inl ⟨by kernel_rfl, ?y14_4b2⟩) ?n14_4b2
                        case y14_4b2 => intro w' _; go_simp; with_reducible rfl
                        clear hD; intro hD
                        simp only [Act.put, List.setIfInBounds_toArray, set_cons_9]; try simp only [List.set_cons_zero, List.set_cons_succ]
                        refine wpAnyK_pureD (i := 5) (d := some 99) (v := ?v14_5b2) (fuel := 22) rfl (by kernel_rfl) (by kernel_rfl) (fun _ _ _ h => h) hD (Below.refl _ _) (.inl ⟨by kernel_rfl, ?y14_5b2⟩) ?n14_5b2
                        case y14_5b2 => intro w' _; go_simp; with_reducible rfl
                        clear hD; intro hD
                        simp only [Act.put, List.setIfInBounds_toArray, set_cons_9]; try simp only [List.set_cons_zero, List.set_cons_succ]
                        refine wpAnyK_takeSD (i := 6) (d := some 100) (v := ?v14_6b2) (fuel := 21) rfl (by kernel_rfl) (by kernel_rfl) (by kernel_rfl) (fun _ _ _ h => h) hD (Below.refl _ _) (.inl ⟨by kernel_rfl, ?y14_6b2⟩) ?n14_6b2
                        case y14_6b2 => intro w' hS'; have e0 := cell_kept hS' (Nat.le_refl _) k1; have e1 := cell_kept hS' (Nat.le_refl _) k2; have e2 := cell_kept hS' (Nat.le_refl _) k3; have e3 := cell_kept hS' (Nat.le_refl _) k4; have e4 := cell_kept hS' (Nat.le_refl _) k5; have e5 := cell_kept hS' (Nat.le_refl _) k6; have e6 := cell_kept hS' (Nat.le_refl _) k7; go_simp; with_reducible rfl
                        clear hD; intro hD
                        simp only [Act.put, List.setIfInBounds_toArray, set_cons_9]; try simp only [List.set_cons_zero, List.set_cons_succ]
                        refine wpAnyK_pureD (i := 8) (d := some 102) (v := ?v14_8b2) (fuel := 20) rfl (by kernel_rfl) (by kernel_rfl) (fun _ _ _ h => h) hD (Below.refl _ _) (.inl ⟨by kernel_rfl, ?y14_8b2⟩) ?n14_8b2
                        case y14_8b2 => intro w' _; go_simp; with_reducible rfl
                        clear hD; intro hD
                        simp only [Act.put, List.setIfInBounds_toArray, set_cons_9]; try simp only [List.set_cons_zero, List.set_cons_succ]
                        refine wpAnyK_takeSD (i := 9) (d := some 103) (v := ?v14_9b2) (fuel := 19) rfl (by kernel_rfl) (by kernel_rfl) (by kernel_rfl) (fun _ _ _ h => h) hD (Below.refl _ _) (.inl ⟨by kernel_rfl, ?y14_9b2⟩) ?n14_9b2
                        case y14_9b2 => intro w' hS'; have e0 := cell_kept hS' (Nat.le_refl _) k1; have e1 := cell_kept hS' (Nat.le_refl _) k2; have e2 := cell_kept hS' (Nat.le_refl _) k3; have e3 := cell_kept hS' (Nat.le_refl _) k4; have e4 := cell_kept hS' (Nat.le_refl _) k5; have e5 := cell_kept hS' (Nat.le_refl _) k6; have e6 := cell_kept hS' (Nat.le_refl _) k7; go_simp; with_reducible rfl
                        clear hD; intro hD
                        simp only [Act.put, List.setIfInBounds_toArray, set_cons_9]; try simp only [List.set_cons_zero, List.set_cons_succ]
                        refine wpAnyK_pureD (i := 11) (d := some 105) (v := ?v14_11b2) (fuel := 18) rfl (by kernel_rfl) (by kernel_rfl) (fun _ _ _ h => h) hD (Below.refl _ _) (.inl ⟨by kernel_rfl, ?y14_11b2⟩) ?n14_11b2
                        case y14_11b2 => intro w' _; go_simp; with_reducible rfl
                        clear hD; intro hD
                        simp only [Act.put, List.setIfInBounds_toArray, set_cons_9]; try simp only [List.set_cons_zero, List.set_cons_succ]
                        refine wpAnyK_takeSD (i := 12) (d := some 106) (v := ?v14_12b2) (fuel := 17) rfl (by kernel_rfl) (by kernel_rfl) (by kernel_rfl) (fun _ _ _ h => h) hD (Below.refl _ _) (.inl ⟨by kernel_rfl, ?y14_12b2⟩) ?n14_12b2
                        case y14_12b2 => intro w' hS'; have e0 := cell_kept hS' (Nat.le_refl _) k1; have e1 := cell_kept hS' (Nat.le_refl _) k2; have e2 := cell_kept hS' (Nat.le_refl _) k3; have e3 := cell_kept hS' (Nat.le_refl _) k4; have e4 := cell_kept hS' (Nat.le_refl _) k5; have e5 := cell_kept hS' (Nat.le_refl _) k6; have e6 := cell_kept hS' (Nat.le_refl _) k7; go_simp; with_reducible rfl
                        clear hD; intro hD
                        simp only [Act.put, List.setIfInBounds_toArray, set_cons_9]; try simp only [List.set_cons_zero, List.set_cons_succ]
                        refine wpAnyK_pureD (i := 14) (d := some 108) (v := ?v14_14b2) (fuel := 16) rfl (by kernel_rfl) (by kernel_rfl) (fun _ _ _ h => h) hD (Below.refl _ _) (.inl ⟨by kernel_rfl, ?y14_14b2⟩) ?n14_14b2
                        case y14_14b2 => intro w' _; go_simp; with_reducible rfl
                        clear hD; intro hD
                        simp only [Act.put, List.setIfInBounds_toArray, set_cons_9]; try simp only [List.set_cons_zero, List.set_cons_succ]
                        refine wpAnyK_takeSD (i := 15) (d := some 109) (v := ?v14_15b2) (fuel := 15) rfl (by kernel_rfl) (by kernel_rfl) (by kernel_rfl) (fun _ _ _ h => h) hD (Below.refl _ _) (.inl ⟨by kernel_rfl, ?y14_15b2⟩) ?n14_15b2
                        case y14_15b2 => intro w' hS'; have e0 := cell_kept hS' (Nat.le_refl _) k1; have e1 := cell_kept hS' (Nat.le_refl _) k2; have e2 := cell_kept hS' (Nat.le_refl _) k3; have e3 := cell_kept hS' (Nat.le_refl _) k4; have e4 := cell_kept hS' (Nat.le_refl _) k5; have e5 := cell_kept hS' (Nat.le_refl _) k6; have e6 := cell_kept hS' (Nat.le_refl _) k7; go_simp; with_reducible rfl
                        clear hD; intro hD
                        simp only [Act.put, List.setIfInBounds_toArray, set_cons_9]; try simp only [List.set_cons_zero, List.set_cons_succ]
                        refine wpAnyK_pureD (i := 17) (d := some 111) (v := ?v14_17b2) (fuel := 14) rfl (by kernel_rfl) (by kernel_rfl) (fun _ _ _ h => h) hD (Below.refl _ _) (.inl ⟨by kernel_rfl, ?y14_17b2⟩) ?n14_17b2
                        case y14_17b2 => intro w' _; go_simp; with_reducible rfl
                        clear hD; intro hD
                        simp only [Act.put, List.setIfInBounds_toArray, set_cons_9]; try simp only [List.set_cons_zero, List.set_cons_succ]
                        refine wpAnyK_takeSD (i := 18) (d := some 112) (v := ?v14_18b2) (fuel := 13) rfl (by kernel_rfl) (by kernel_rfl) (by kernel_rfl) (fun _ _ _ h => h) hD (Below.refl _ _) (.inl ⟨by kernel_rfl, ?y14_18b2⟩) ?n14_18b2
                        case y14_18b2 => intro w' hS'; have e0 := cell_kept hS' (Nat.le_refl _) k1; have e1 := cell_kept hS' (Nat.le_refl _) k2; have e2 := cell_kept hS' (Nat.le_refl _) k3; have e3 := cell_kept hS' (Nat.le_refl _) k4; have e4 := cell_kept hS' (Nat.le_refl _) k5; have e5 := cell_kept hS' (Nat.le_refl _) k6; have e6 := cell_kept hS' (Nat.le_refl _) k7; go_simp; with_reducible rfl
                        clear hD; intro hD
                        simp only [Act.put, List.setIfInBounds_toArray, set_cons_9]; try simp only [List.set_cons_zero, List.set_cons_succ]
                        refine wpAnyK_pureD (i := 20) (d := some 114) (v := ?v14_20b2) (fuel := 12) rfl (by kernel_rfl) (by kernel_rfl) (fun _ _ _ h => h) hD (Below.refl _ _) (.inl ⟨by kernel_rfl, ?y14_20b2⟩) ?n14_20b2
                        case y14_20b2 => intro w' _; go_simp; with_reducible rfl
                        clear hD; intro hD
                        simp only [Act.put, List.setIfInBounds_toArray, set_cons_9]; try simp only [List.set_cons_zero, List.set_cons_succ]
                        refine wpAnyK_takeSD (i := 21) (d := some 115) (v := ?v14_21b2) (fuel := 11) rfl (by kernel_rfl) (by kernel_rfl) (by kernel_rfl) (fun _ _ _ h => h) hD (Below.refl _ _) (.inl ⟨by kernel_rfl, ?y14_21b2⟩) ?n14_21b2
                        case y14_21b2 => intro w' hS'; have e0 := cell_kept hS' (Nat.le_refl _) k1; have e1 := cell_kept hS' (Nat.le_refl _) k2; have e2 := cell_kept hS' (Nat.le_refl _) k3; have e3 := cell_kept hS' (Nat.le_refl _) k4; have e4 := cell_kept hS' (Nat.le_refl _) k5; have e5 := cell_kept hS' (Nat.le_refl _) k6; have e6 := cell_kept hS' (Nat.le_refl _) k7; go_simp; with_reducible rfl
                        clear hD; intro hD
                        simp only [Act.put, List.setIfInBounds_toArray, set_cons_9]; try simp only [List.set_cons_zero, List.set_cons_succ]
                        refine (show GhostK _ _ _ _ _ _ 25 9 10 _ _ (GI W11.drew (fun _ _ => True)) from ?_).2 _ ⟨Below.refl _ _, (fun h => by cases h), fun _ => trivial⟩
                        refine ghost_step (i := 25) (j := 3) (d := 9) (dj := 97) (fuel := 9) (fun (y : Unit) => .agg #[.int .i64 0, .string v.km, .string ⟨#[]⟩, .slice none 0 0]) (fun y => GI W11.drew (fun _ _ => True)) (by kernel_rfl) (by kernel_rfl) rfl rfl hD (by kernel_rfl) (by decide) (fun _ _ _ _ h => h.1) (fun _ _ _ h => h.1) (alloc_itemK rfl rfl (fun _ _ => by kernel_rfl) (fun _ _ _ _ => trivial)) ?_ ?_
                        · skip
                          intro b x w hI K hK
                          simp only [Act.put, List.setIfInBounds_toArray, set_cons_9] at hK ⊢
                          try simp only [List.set_cons_zero, List.set_cons_succ] at hK ⊢
                          have HK := Lib.hid hK
                          have HGI := Lib.hid hI
                          clear hK hI hD
                          go_wp2_with fail
                          refine (r08_NatV v.km _).mono ?_
                          rintro e w3 ⟨rfl, hb⟩
                          have HG2 := Lib.hid (HGI.out.step (J' := fun _ _ => True) hb (fun _ _ _ => trivial) (fun _ => trivial))
                          clear hb
                          go_wp2
                          exact HK.out () _ HG2.out
                        · skip
                          intro _ hD
                          simp only [Act.put, List.setIfInBounds_toArray, set_cons_9]
                          try simp only [List.set_cons_zero, List.set_cons_succ]
                          refine ghost_step (i := 25) (j := 7) (d := 9) (dj := 101) (fuel := 8) (fun (y : Unit) => .agg #[.int .i64 0, .string v.ko, .string ⟨#[]⟩, .slice none 0 0]) (fun y => GI W11.drew (fun _ _ => True)) (by kernel_rfl) (by kernel_rfl) rfl rfl hD (by kernel_rfl) (by decide) (fun _ _ _ _ h => h.1) (fun _ _ _ h => h.1) (alloc_itemK rfl rfl (fun _ _ => by kernel_rfl) (fun _ _ _ _ => trivial)) ?_ ?_
                          · skip
                            intro b x w hI K hK
                            simp only [Act.put, List.setIfInBounds_toArray, set_cons_9] at hK ⊢
                            try simp only [List.set_cons_zero, List.set_cons_succ] at hK ⊢
                            have HK := Lib.hid hK
                            have HGI := Lib.hid hI
                            clear hK hI hD
                            go_wp2_with fail
                            refine (r08_NatV v.ko _).mono ?_
                            rintro e w7 ⟨rfl, hb⟩
                            have HG2 := Lib.hid (HGI.out.step (J' := fun _ _ => True) hb (fun _ _ _ => trivial) (fun _ => trivial))
                            clear hb
                            go_wp2
                            exact HK.out () _ HG2.out
                          · skip
                            intro _ hD
                            simp only [Act.put, List.setIfInBounds_toArray, set_cons_9]
                            try simp only [List.set_cons_zero, List.set_cons_succ]
                            refine ghost_step (i := 25) (j := 10) (d := 9) (dj := 104) (fuel := 7) (fun (y : Unit) => .agg #[.int .i64 0, .string v.kz, .string ⟨#[]⟩, .slice none 0 0]) (fun y => GI W11.drew (fun _ _ => True)) (by kernel_rfl) (by kernel_rfl) rfl rfl hD (by kernel_rfl) (by decide) (fun _ _ _ _ h => h.1) (fun _ _ _ h => h.1) (alloc_itemK rfl rfl (fun _ _ => by kernel_rfl) (fun _ _ _ _ => trivial)) ?_ ?_
                            · skip
                              intro b x w hI K hK
                              simp only [Act.put, List.setIfInBounds_toArray, set_cons_9] at hK ⊢
                              try simp only [List.set_cons_zero, List.set_cons_succ] at hK ⊢
                              have HK := Lib.hid hK
                              have HGI := Lib.hid hI
                              clear hK hI hD
                              go_wp2_with fail
                              refine (r08_NatV v.kz _).mono ?_
                              rintro e w10 ⟨rfl, hb⟩
                              have HG2 := Lib.hid (HGI.out.step (J' := fun _ _ => True) hb (fun _ _ _ => trivial) (fun _ => trivial))
                              clear hb
                              go_wp2
                              exact HK.out () _ HG2.out
                            · skip
                              intro _ hD
                              simp only [Act.put, List.setIfInBounds_toArray, set_cons_9]
                              try simp only [List.set_cons_zero, List.set_cons_succ]
                              refine ghost_step (i := 25) (j := 13) (d := 9) (dj := 107) (fuel := 6) (fun (y : Unit) => .agg #[.int .i64 0, .string v.ks, .string ⟨#[]⟩, .slice none 0 0]) (fun y => GI W11.drew (fun _ _ => True)) (by kernel_rfl) (by kernel_rfl) rfl rfl hD (by kernel_rfl) (by decide) (fun _ _ _ _ h => h.1) (fun _ _ _ h => h.1) (alloc_itemK rfl rfl (fun _ _ => by kernel_rfl) (fun _ _ _ _ => trivial)) ?_ ?_
                              · skip
                                intro b x w hI K hK
                                simp only [Act.put, List.setIfInBounds_toArray, set_cons_9] at hK ⊢
                                try simp only [List.set_cons_zero, List.set_cons_succ] at hK ⊢
                                have HK := Lib.hid hK
                                have HGI := Lib.hid hI
                                clear hK hI hD
                                go_wp2_with fail
                                refine (r08_NatV v.ks _).mono ?_
                                rintro e w13 ⟨rfl, hb⟩
                                have HG2 := Lib.hid (HGI.out.step (J' := fun _ _ => True) hb (fun _ _ _ => trivial) (fun _ => trivial))
                                clear hb
                                go_wp2
                                exact HK.out () _ HG2.out
                              · skip
                                intro _ hD
                                simp only [Act.put, List.setIfInBounds_toArray, set_cons_9]
                                try simp only [List.set_cons_zero, List.set_cons_succ]
                                refine ghost_step (i := 25) (j := 16) (d := 9) (dj := 110) (fuel := 5) (fun (y : Option Addr × Nat × Nat) => .agg #[.int .i64 2, .string ⟨#[]⟩, .string ⟨#[]⟩, .slice y.1 y.2.1 y.2.2]) (fun y => GI W11.drew (fun ok w => SlAt w ok y.1 y.2.1 y.2.2 (v.kr.map natIt))) (by kernel_rfl) (by kernel_rfl) rfl rfl hD (by kernel_rfl) (by decide) (fun _ _ _ _ h => h.1) (fun _ _ _ h => h.1) (alloc_itemK rfl rfl (fun _ _ => by kernel_rfl) (fun _ _ _ _ => trivial)) ?_ ?_
                                · skip
                                  intro b x w hI K hK
                                  simp only [Act.put, List.setIfInBounds_toArray, set_cons_9] at hK ⊢
                                  try simp only [List.set_cons_zero, List.set_cons_succ] at hK ⊢
                                  have HK := Lib.hid hK
                                  have HGI := Lib.hid hI
                                  clear hK hI hD
                                  go_wp2_with fail
                                  refine (r58_items v.kr A n c _ (HSL7.out.kept HGI.out.1 (Nat.le_refl _)) (by omega)).mono ?_
                                  rintro e w16 ⟨v16, rfl, ⟨A5, l5, c5, rfl, hs5⟩, hb⟩
                                  have HG2 := Lib.hid (HGI.out.step (J' := fun ok w => SlAt w ok A5 l5 c5 (v.kr.map natIt)) hb (fun ok h _ => hs5.low h) (fun _ => hs5.bound.low fun _ h => h.2))
                                  clear hb hs5
                                  go_wp2
                                  exact HK.out (A5, l5, c5) _ HG2.out
                                · rintro ⟨A5, l5, c5⟩ hD
                                  dsimp only at hD ⊢
                                  simp only [Act.put, List.setIfInBounds_toArray, set_cons_9]
                                  try simp only [List.set_cons_zero, List.set_cons_succ]
                                  refine ghost_step (i := 25) (j := 19) (d := 9) (dj := 113) (fuel := 4) (fun (y : Unit) => .agg #[.int .i64 0, .string v.ku, .string ⟨#[]⟩, .slice none 0 0]) (fun y => GI W11.drew (fun ok w => SlAt w ok A5 l5 c5 (v.kr.map natIt))) (by kernel_rfl) (by kernel_rfl) rfl rfl hD (by kernel_rfl) (by decide) (fun _ _ _ _ h => h.1) (fun _ _ _ h => h.1) (alloc_itemK rfl rfl (fun _ _ => by kernel_rfl) (fun _ _ hb h => (h.low fun _ hlt => Nat.ne_of_lt hlt).below hb (Nat.le_refl _))) ?_ ?_
                                  · skip
                                    intro b x w hI K hK
                                    simp only [Act.put, List.setIfInBounds_toArray, set_cons_9] at hK ⊢
                                    try simp only [List.set_cons_zero, List.set_cons_succ] at hK ⊢
                                    have HK := Lib.hid hK
                                    have HGI := Lib.hid hI
                                    clear hK hI hD
                                    go_wp2_with fail
                                    refine (r08_NatV v.ku _).mono ?_
                                    rintro e w19 ⟨rfl, hb⟩
                                    have HG2 := Lib.hid (HGI.out.step (J' := fun ok w => SlAt w ok A5 l5 c5 (v.kr.map natIt)) hb (fun _ _ h => h.below hb (Nat.le_refl _)) (fun h => (h.below hb (Nat.le_refl _)).low fun _ hc => Nat.lt_of_lt_of_le hc hb.size))
                                    clear hb
                                    go_wp2
                                    exact HK.out () _ HG2.out
                                  · skip
                                    intro _ hD
                                    simp only [Act.put, List.setIfInBounds_toArray, set_cons_9]
                                    try simp only [List.set_cons_zero, List.set_cons_succ]
                                    refine ghost_step (i := 25) (j := 22) (d := 9) (dj := 116) (fuel := 3) (fun (y : Unit) => .agg #[.int .i64 0, .string v.kh, .string ⟨#[]⟩, .slice none 0 0]) (fun y => GI W11.drew (fun ok w => SlAt w ok A5 l5 c5 (v.kr.map natIt))) (by kernel_rfl) (by kernel_rfl) rfl rfl hD (by kernel_rfl) (by decide) (fun _ _ _ _ h => h.1) (fun _ _ _ h => h.1) (alloc_itemK rfl rfl (fun _ _ => by kernel_rfl) (fun _ _ hb h => (h.low fun _ hlt => Nat.ne_of_lt hlt).below hb (Nat.le_refl _))) ?_ ?_
                                    · skip
                                      intro b x w hI K hK
                                      simp only [Act.put, List.setIfInBounds_toArray, set_cons_9] at hK ⊢
                                      try simp only [List.set_cons_zero, List.set_cons_succ] at hK ⊢
                                      have HK := Lib.hid hK
                                      have HGI := Lib.hid hI
                                      clear hK hI hD
                                      go_wp2_with fail
                                      refine (r08_NatV v.kh _).mono ?_
                                      rintro e w22 ⟨rfl, hb⟩
                                      have HG2 := Lib.hid (HGI.out.step (J' := fun ok w => SlAt w ok A5 l5 c5 (v.kr.map natIt)) hb (fun _ _ h => h.below hb (Nat.le_refl _)) (fun h => (h.below hb (Nat.le_refl _)).low fun _ hc => Nat.lt_of_lt_of_le hc hb.size))
                                      clear hb
                                      go_wp2
                                      exact HK.out () _ HG2.out
                                    · skip
                                      intro _ hD
                                      simp only [Act.put, List.setIfInBounds_toArray, set_cons_9]
                                      try simp only [List.set_cons_zero, List.set_cons_succ]
                                      refine ghost_step (i := 25) (j := 23) (d := 9) (dj := 117) (fuel := 2) (fun (y : Nat) => .slice (some ⟨y, 0, none⟩) 7 7) (fun y => GI W11.drew (fun ok w => SlAt w ok (some ⟨y, 0, none⟩) 7 7 v.kit.list)) (by kernel_rfl) (by kernel_rfl) rfl rfl hD (by kernel_rfl) (by decide) (fun _ _ _ _ h => h.1) (fun _ _ _ h => h.1) (alloc_itemK rfl rfl (fun _ _ => by kernel_rfl) (fun _ _ hb h => (h.low fun _ hlt => Nat.ne_of_lt hlt).below hb (Nat.le_refl _))) ?_ ?_
                                      · skip
                                        intro b x w hI K hK
                                        simp only [Act.put, List.setIfInBounds_toArray, set_cons_9] at hK ⊢
                                        try simp only [List.set_cons_zero, List.set_cons_succ] at hK ⊢
                                        have HK := Lib.hid hK
                                        have HGI := Lib.hid hI
                                        clear hK hI hD
                                        go_wp2
                                        refine name_world ?_
                                        intro w23 hw23
                                        have hb := below_alloc hw23
                                        have hx := bxc_alloc hw23
                                        exact HK.out w.heap.size _ (HGI.out.step hb (fun ok h hJ => row7K hx (h _ (Nat.le_refl _)) (SlAt.nil _ _) (hJ.below hb (Nat.le_refl _))) (fun hJ => row7K hx hx.lt (SlAt.nil _ _) ((hJ.below hb (Nat.le_refl _)).low fun _ hc => Nat.lt_of_lt_of_le hc hb.size)))
                                      · intro B23 hD
                                        simp only [Act.put, List.setIfInBounds_toArray, set_cons_9]
                                        try simp only [List.set_cons_zero, List.set_cons_succ]
                                        refine ghost_step (i := 25) (j := 24) (d := 9) (dj := 118) (fuel := 1) (fun (y : Option Addr × Nat × Nat) => .agg #[.int .i64 2, .string ⟨#[]⟩, .string ⟨#[]⟩, .slice y.1 y.2.1 y.2.2]) (fun y => GI W11.drew (fun ok w => SlAt w ok y.1 y.2.1 y.2.2 v.kit.list)) (by kernel_rfl) (by kernel_rfl) rfl rfl hD (by kernel_rfl) (by decide) (fun _ _ _ _ h => h.1) (fun _ _ _ h => h.1) (alloc_itemK rfl rfl (fun _ _ => by kernel_rfl) (fun _ _ hb h => (h.low fun _ hlt => Nat.ne_of_lt hlt).below hb (Nat.le_refl _))) ?_ ?_
                                        · skip
                                          intro b x w hI K hK
                                          simp only [Act.put, List.setIfInBounds_toArray, set_cons_9] at hK ⊢
                                          try simp only [List.set_cons_zero, List.set_cons_succ] at hK ⊢
                                          have HK := Lib.hid hK
                                          have HGI := Lib.hid hI
                                          clear hK hI hD
                                          cases b with
                                          | true =>
                                            obtain ⟨GB, hxB, hGB, hGZ, hGJ⟩ := HGI.out.2.1 rfl
                                            have HGJ := Lib.hid hGJ
                                            have HGL := Lib.hid hGZ.lt
                                            have HXB := Lib.hid hxB
                                            clear hxB hGB hGZ hGJ
                                            go_wp2_with fail
                                            refine (r08_ListK _ _ 7 7 _ _ (by show 7 ≤ 1000000000000; omega) HGJ.out).mono ?_
                                            rintro e w24 ⟨v24, rfl, ⟨A7, l7, c7, rfl, hs7⟩, hb⟩
                                            have hGI := HGI.out
                                            have HG2 := Lib.hid (show GI W11.drew (fun ok w => SlAt w ok A7 l7 c7 v.kit.list) true x w24 from by
                                              obtain ⟨g1, g2, _⟩ := hGI
                                              refine ⟨g1.trans (hb.mono g1.size), fun _ => ?_, fun h => by cases h⟩
                                              obtain ⟨B, hxB, hB, hz, _⟩ := g2 rfl
                                              have hzl := hz.lt
                                              refine ⟨B, hxB, hB, hz.next hb, ?_⟩
                                              exact hs7.low fun cc hc => by
                                                rcases hc with h | h
                                                · exact fun e => h (by rw [e]; have h3 := hxB; have h4 := HXB.out; rw [h4] at h3; cases h3; rfl)
                                                · omega)
                                            clear hb hs7 hGI
                                            go_wp2
                                            exact HK.out (A7, l7, c7) _ HG2.out
                                          | false =>
                                            have HGJ := Lib.hid (HGI.out.2.2 rfl)
                                            go_wp2_with fail
                                            refine (r08_ListK _ _ 7 7 _ _ (by show 7 ≤ 1000000000000; omega) HGJ.out).mono ?_
                                            rintro e w24 ⟨v24, rfl, ⟨A7, l7, c7, rfl, hs7⟩, hb⟩
                                            have hGI := HGI.out
                                            have HG2 := Lib.hid (show GI W11.drew (fun ok w => SlAt w ok A7 l7 c7 v.kit.list) false x w24 from
                                              ⟨hGI.1.trans (hb.mono hGI.1.size), (fun h => (by cases h)), fun _ => hs7.bound.low fun _ h => h.2⟩)
                                            clear hb hs7 hGI
                                            go_wp2
                                            exact HK.out (A7, l7, c7) _ HG2.out
                                        · rintro ⟨A7, l7, c7⟩ hD
                                          dsimp only at hD ⊢
                                          simp only [Act.put, List.setIfInBounds_toArray, set_cons_9]
                                          try simp only [List.set_cons_zero, List.set_cons_succ]
                                          refine ghost_end (by kernel_rfl) rfl hD (fun _ _ _ h => h.1) (alloc_itemK rfl rfl (fun _ _ => by kernel_rfl) (fun _ _ hb h => (h.low fun _ hlt => Nat.ne_of_lt hlt).below hb (Nat.le_refl _))) ?_
                                          intro x w25 hI hD
                                          obtain ⟨hS25, hx, _⟩ := hI
                                          obtain ⟨B7, rfl, hBL, hZ, hJ⟩ := hx rfl
                                          have HZZ := Lib.hid hZ
                                          have HJ := Lib.hid hJ
                                          have HBL := Lib.hid hBL
                                          have HS25 := Lib.hid hS25
                                          clear hx hBL hZ hJ hS25
                                          simp only [Act.put, List.setIfInBounds_toArray, set_cons_9]
                                          try simp only [List.set_cons_zero, List.set_cons_succ]
                                          refine wpAnyK_one (i := 26) (fuel := 0) (by kernel_rfl) rfl hD ?_
                                          clear hD; intro K26 hK26
                                          refine wpList_store_rowTo rfl 79 _ _ rfl rfl B7 #[.int .i64 2, .string ⟨#[]⟩, .string ⟨#[]⟩, .slice A7 l7 c7] rfl rfl 79 itZ HZZ.out (by kernel_rfl) rfl (by simp [Value.oneCell']) ?_
                                          have HT := Lib.hid (show BxC _ B7 #[.int .i64 2, .string ⟨#[]⟩, .string ⟨#[]⟩, .slice A7 l7 c7] 79 from setRow_heap _ _ _ #[.int .i64 2, .string ⟨#[]⟩, .string ⟨#[]⟩, .slice A7 l7 c7] _ _ HZZ.out)
                                          have HJ := Lib.hid (HJ.out.row (B := B7) (fun b h => h) #[.int .i64 2, .string ⟨#[]⟩, .string ⟨#[]⟩, .slice A7 l7 c7])
                                          go_wp2
                                          refine hK26 _ _ (by exact below_setRow HS25.out HBL.out _) ?_; clear hK26; intro hS26 hD
                                          refine wpAnyK_done (by kernel_rfl) ?_ 0
                                          clear hD
                                          exact rest10 B7 _ A7 l7 c7 HT.out HJ.out hS26 _ _ _ _ _ _ _ _ _ _ _ _ _ _ _ _ _ _ _ _ _ _ _ _ _ _ _ _ _ _ _ _ _ _ _ _ _ _ _ _ _ _ _ _ _ _ _ _ _ _ _ _ _ _ _ _ _ _ _ _ _ _ _ _ _ _ _ _ _ _ _ _ _ _ _ _ _ _ _ _ _ _ _ _ _ _ _ _ _ _ _ _ _ _ _ _ _ _ _ _ _ _ _ _ _ _ _ _ _ _ _ _ _ _ _ _ _ _ _ _ _ _ _ _ _ _ _ _ _ _ _ _ _ _ _ _ _
    clear hK7
    obtain ⟨i0, hi, iz0, iz1, iz2⟩ := info_parts nat_info
    rcases Nat.eq_zero_or_pos n with h0 | h0
    · subst h0
      have hkr : v.kr = [] := List.length_eq_zero_iff.1 HSW.out.1
      have hfin : K7 { tmps := #[.agg cs, .pointer (some ⟨R, 0, none⟩), .string ⟨#[]⟩, .int .i64 0, .pointer (some ⟨P, 0, none⟩), .pointer (some ⟨Q, 0, none⟩), .slice (some ⟨S, 0, none⟩) 4 4, .slice (some ⟨T, 0, none⟩) 6 6, undef, undef, .pointer (some ⟨R, 2, none⟩), .agg #[.string v.kn, .string v.km, .string v.ko, .string v.kz, .string v.ks, .slice A 0 c, .string v.ku, .string v.kh], .pointer (some ⟨R, 10, none⟩), .agg #[.string v.sm, .string v.so, .string v.sg, .string v.sy], .pointer (some ⟨Q, 0, none⟩), .pointer (some ⟨Q, 0, none⟩), .string v.sm, .pointer (some ⟨Q, 0, none⟩), .pointer (some ⟨Q, 1, none⟩), .string v.so, .pointer (some ⟨Q, 2, none⟩), .string v.sg, .pointer (some ⟨Q, 3, none⟩), .string v.sy, .slice (some ⟨S, 0, none⟩) 4 4, .pointer (some ⟨P, 1, none⟩), .pointer (some ⟨P, 1, none⟩), .string v.km, .pointer (some ⟨P, 1, none⟩), .pointer (some ⟨P, 2, none⟩), .string v.ko, .pointer (some ⟨P, 3, none⟩), .string v.kz, .pointer (some ⟨P, 4, none⟩), .string v.ks, .pointer (some ⟨P, 6, none⟩), .string v.ku, .pointer (some ⟨P, 7, none⟩), .string v.kh, .slice (some ⟨T, 0, none⟩) 6 6, .pointer (some ⟨P, 5, none⟩), .slice A 0 c, .slice (some ⟨T, 0, none⟩) 6 6, undef, undef, undef, undef, undef, undef, undef, undef, undef, undef, undef, undef, undef, undef, undef, undef, undef, undef, undef, undef, undef, undef, undef, undef, undef, undef, undef, undef, undef, undef, undef, undef, undef, undef, undef, undef, undef, undef, undef, undef, undef, undef, undef, undef, undef, undef, undef, undef, undef, undef, undef, undef, undef, undef, undef, undef, undef, undef, undef, undef, undef, undef, undef, undef, undef, undef, undef, undef, undef, undef, undef, undef, undef, undef, undef, undef, undef, undef, undef, undef, undef, undef, undef, undef, undef, undef, undef, undef, undef, undef, undef, undef, undef, undef, undef, undef, undef], defers := [] } W9 := rest3 T 6 W9 (by rw [hkr, List.append_nil]; exact HOWN.out) (Below.refl _ _)
      have HFIN := Lib.hid hfin
      clear rest3 hfin hkr
      cases A with
      | none =>
        go_wp2
        exact HFIN.out
      | some ad =>
        have hlc := fun (w : World) => (run_loadCells_list (P := Try.prog) w ad [] (by intro j v hj; simp at hj))
        go_wp2
        exact HFIN.out
    · obtain ⟨ab, ao, rfl⟩ := HSW9.out.head h0
      have hlen := HSW9.out.1
      have hcells := HSW9.out.cells
      have HREST := Lib.hid rest3
      clear rest3
      go_wp2_with (at_builtin; refine wpList_append_lies _ rfl (.tmp 39) (.tmp 41) 30 rfl T 27 i0 _ 1 16 Try.underlying30 hi iz0 iz1 iz2 rfl (by decide) _ 6 ([v.km, v.ko, v.kz, v.ks, v.ku, v.kh].map Value.string) rfl HOWN.out ⟨ab, ao, none⟩ n c (v.kr.map Value.string) rfl (by rw [List.length_map, hlen, Nat.mul_one]) hcells (strs_one v.kr) h0 ?n3 ?n4 (Nat.le_of_lt HST.out.2.2) _ rfl ?_)
      case n3 => unfold maxLen; omega
      case n4 => omega
      intro g cap W10 hown hgrow hat hlt
      have hfin := HREST.out g cap W10 (by rw [List.map_append]; exact hown) ((Below.refl _ _).grown hgrow (Nat.le_of_lt HST.out.2.2) (fun k e => by simp only [Value.ownBlock, Option.some.injEq] at e; omega))
      clear hown hgrow hat hlt hcells hlen
      go_wp2
      exact hfin
  try refine wp_onlyN ?_
  have HP6 := trivial
  have HQ6 := trivial
  refine wp_region_K 8 (Below (W.drew).heap.size (W.drew)) (by kernel_rfl) ?_
  intro hD
  refine wpAnyK_pureD (i := 0) (d := some 10) (v := ?v1_0b3) (fuel := 7) rfl (by kernel_rfl) (by kernel_rfl) (fun _ _ _ h => h) hD (Below.refl _ _) (.inl ⟨by kernel_rfl, ?y1_0b3⟩) ?n1_0b3
  case y1_0b3 => intro w' _; go_simp; with_reducible rfl
  clear hD; intro hD
  simp only [Act.put, List.setIfInBounds_toArray, List.set_cons_zero, List.set_cons_succ]
  refine wpAnyK_takeSD (i := 1) (d := some 11) (v := ?v1_1b3) (fuel := 6) rfl (by kernel_rfl) (by kernel_rfl) (by kernel_rfl) (fun _ _ _ h => h) hD (Below.refl _ _) (.inl ⟨by kernel_rfl, ?y1_1b3⟩) ?n1_1b3
  case y1_1b3 => intro w' hS'; have e0 := cell_kept hS' (Nat.le_refl _) x2; have e1 := cell_kept hS' (Nat.le_refl _) x3; have e2 := cell_kept hS' (Nat.le_refl _) x4; have e3 := cell_kept hS' (Nat.le_refl _) x5; have e4 := cell_kept hS' (Nat.le_refl _) x6; have e5 := cell_kept hS' (Nat.le_refl _) x7; have e6 := cell_kept hS' (Nat.le_refl _) x8; have e7 := cell_kept hS' (Nat.le_refl _) x9; have e8 := cell_kept hS' (Nat.le_refl _) x10; have e9 := cell_kept hS' (Nat.le_refl _) x11; have e10 := cell_kept hS' (Nat.le_refl _) x12; have e11 := cell_kept hS' (Nat.le_refl _) x13; go_simp; with_reducible rfl
  clear hD; intro hD
  simp only [Act.put, List.setIfInBounds_toArray, List.set_cons_zero, List.set_cons_succ]
  refine wpAnyK_pureD (i := 2) (d := some 12) (v := ?v1_2b3) (fuel := 5) rfl (by kernel_rfl) (by kernel_rfl) (fun _ _ _ h => h) hD (Below.refl _ _) (.inl ⟨by kernel_rfl, ?y1_2b3⟩) ?n1_2b3
  case y1_2b3 => intro w' _; go_simp; with_reducible rfl
  clear hD; intro hD
  simp only [Act.put, List.setIfInBounds_toArray, List.set_cons_zero, List.set_cons_succ]
  refine wpAnyK_takeSD (i := 3) (d := some 13) (v := ?v1_3b3) (fuel := 4) rfl (by kernel_rfl) (by kernel_rfl) (by kernel_rfl) (fun _ _ _ h => h) hD (Below.refl _ _) (.inl ⟨by kernel_rfl, ?y1_3b3⟩) ?n1_3b3
  case y1_3b3 => intro w' hS'; have e0 := cell_kept hS' (Nat.le_refl _) x2; have e1 := cell_kept hS' (Nat.le_refl _) x3; have e2 := cell_kept hS' (Nat.le_refl _) x4; have e3 := cell_kept hS' (Nat.le_refl _) x5; have e4 := cell_kept hS' (Nat.le_refl _) x6; have e5 := cell_kept hS' (Nat.le_refl _) x7; have e6 := cell_kept hS' (Nat.le_refl _) x8; have e7 := cell_kept hS' (Nat.le_refl _) x9; have e8 := cell_kept hS' (Nat.le_refl _) x10; have e9 := cell_kept hS' (Nat.le_refl _) x11; have e10 := cell_kept hS' (Nat.le_refl _) x12; have e11 := cell_kept hS' (Nat.le_refl _) x13; go_simp; with_reducible rfl
  clear hD; intro hD
  simp only [Act.put, List.setIfInBounds_toArray, List.set_cons_zero, List.set_cons_succ]
  refine wpAnyK_two (i := 4) (i' := 5) (fuel := 3) (by kernel_rfl) rfl rfl hD ?_ ?_ 
  · unfold StepK
    clear hD; intro K4 hK4
    go_wp2
    refine hK4 _ _ (by exact (Below.refl _ _).alloc (Nat.le_refl _) _) ?_; clear hK4; intro hS_1_4 hD
    refine wpAnyK_one (i := 5) (fuel := 2) (by kernel_rfl) rfl hD ?_
    clear hD; intro K5 hK5
    go_wp2
    refine hK5 _ _ (by exact Below.alloc hS_1_4 (Below.size hS_1_4) _) ?_; clear hK5; intro hS_1_5_4 hD
    refine wpAnyK_one (i := 6) (fuel := 1) (by kernel_rfl) rfl hD ?_
    clear hD; intro K6 hK6
    first
    | (refine wpList_store_rowTo rfl 32 _ _ rfl rfl W.heap.size (v.key (.slice A n c)) rfl rfl 32 (ver0.key (.slice none 0 0)) (BxC.new W.drew (ver0.key (.slice none 0 0)) 32) (by kernel_rfl) rfl (v.key_one A n c) ?_
       have HP6 := Lib.hid (show BxC ((W.drew.alloc (.cells (ver0.key (.slice none 0 0)) 32)).setRow W.heap.size (v.key (.slice A n c))) W.heap.size (v.key (.slice A n c)) 32 from setRow_heap _ _ _ _ _ _ (BxC.new W.drew (ver0.key (.slice none 0 0)) 32))
       have HQ6 := Lib.hid (True.intro)
       have HL6 := Lib.hid (show Below W.drew.heap.size W.drew ((W.drew.alloc (.cells (ver0.key (.slice none 0 0)) 32)).setRow W.heap.size (v.key (.slice A n c))) from below_setRow ((Below.refl _ _).alloc (Nat.le_refl _) _) (Nat.le_refl _) _)
       have hne6 := True.intro
       show wpList _ _ _ _ _ ((W.drew.alloc (.cells (ver0.key (.slice none 0 0)) 32)).setRow W.heap.size (v.key (.slice A n c)))
       obtain ⟨w6, hw6⟩ : ∃ w6, (W.drew.alloc (.cells (ver0.key (.slice none 0 0)) 32)).setRow W.heap.size (v.key (.slice A n c)) = w6 := ⟨_, rfl⟩)
    | (refine wpList_store_rowTo rfl 32 _ _ rfl rfl (W.heap.size + 1) (v.key (.slice A n c)) rfl rfl 32 (ver0.key (.slice none 0 0)) (BxC.new1 W.drew (ver0.key (.slice none 0 0)) 32 (.cells (ver0.sgn) 34)) (by kernel_rfl) rfl (v.key_one A n c) ?_
       have HP6 := Lib.hid (show BxC (((W.drew.alloc (.cells (ver0.sgn) 34)).alloc (.cells (ver0.key (.slice none 0 0)) 32)).setRow (W.heap.size + 1) (v.key (.slice A n c))) (W.heap.size + 1) (v.key (.slice A n c)) 32 from setRow_heap _ _ _ _ _ _ (BxC.new1 W.drew (ver0.key (.slice none 0 0)) 32 (.cells (ver0.sgn) 34)))
       have HQ6 := Lib.hid (show BxC (((W.drew.alloc (.cells (ver0.sgn) 34)).alloc (.cells (ver0.key (.slice none 0 0)) 32)).setRow (W.heap.size + 1) (v.key (.slice A n c))) W.heap.size ver0.sgn 34 from (BxC.alloc (BxC.new W.drew ver0.sgn 34) _).row (show W.heap.size ≠ W.heap.size + 1 from by omega))
       have HL6 := Lib.hid (show Below W.drew.heap.size W.drew (((W.drew.alloc (.cells (ver0.sgn) 34)).alloc (.cells (ver0.key (.slice none 0 0)) 32)).setRow (W.heap.size + 1) (v.key (.slice A n c))) from below_setRow (((Below.refl _ _).alloc (Nat.le_refl _) _).alloc (by simp) _) (Nat.le_succ _) _)
       have hne6 : W.heap.size + 1 ≠ W.heap.size := by omega
       show wpList _ _ _ _ _ (((W.drew.alloc (.cells (ver0.sgn) 34)).alloc (.cells (ver0.key (.slice none 0 0)) 32)).setRow (W.heap.size + 1) (v.key (.slice A n c)))
       obtain ⟨w6, hw6⟩ : ∃ w6, ((W.drew.alloc (.cells (ver0.sgn) 34)).alloc (.cells (ver0.key (.slice none 0 0)) 32)).setRow (W.heap.size + 1) (v.key (.slice A n c)) = w6 := ⟨_, rfl⟩)
    | (refine wpList_store_rowTo rfl 32 _ _ rfl rfl W.heap.size (v.key (.slice A n c)) rfl rfl 32 (ver0.key (.slice none 0 0)) (BxC.alloc (BxC.new W.drew (ver0.key (.slice none 0 0)) 32) (.cells (ver0.sgn) 34)) (by kernel_rfl) rfl (v.key_one A n c) ?_
       have HP6 := Lib.hid (show BxC (((W.drew.alloc (.cells (ver0.key (.slice none 0 0)) 32)).alloc (.cells (ver0.sgn) 34)).setRow W.heap.size (v.key (.slice A n c))) W.heap.size (v.key (.slice A n c)) 32 from setRow_heap _ _ _ _ _ _ (BxC.alloc (BxC.new W.drew (ver0.key (.slice none 0 0)) 32) (.cells (ver0.sgn) 34)))
       have HQ6 := Lib.hid (show BxC (((W.drew.alloc (.cells (ver0.key (.slice none 0 0)) 32)).alloc (.cells (ver0.sgn) 34)).setRow W.heap.size (v.key (.slice A n c))) (W.heap.size + 1) ver0.sgn 34 from (BxC.new1 W.drew ver0.sgn 34 _).row (show W.heap.size + 1 ≠ W.heap.size from by omega))
       have HL6 := Lib.hid (show Below W.drew.heap.size W.drew (((W.drew.alloc (.cells (ver0.key (.slice none 0 0)) 32)).alloc (.cells (ver0.sgn) 34)).setRow W.heap.size (v.key (.slice A n c))) from below_setRow (((Below.refl _ _).alloc (Nat.le_refl _) _).alloc (by simp) _) (Nat.le_refl _) _)
       have hne6 : W.heap.size ≠ W.heap.size + 1 := by omega
       show wpList _ _ _ _ _ (((W.drew.alloc (.cells (ver0.key (.slice none 0 0)) 32)).alloc (.cells (ver0.sgn) 34)).setRow W.heap.size (v.key (.slice A n c)))
       obtain ⟨w6, hw6⟩ : ∃ w6, ((W.drew.alloc (.cells (ver0.key (.slice none 0 0)) 32)).alloc (.cells (ver0.sgn) 34)).setRow W.heap.size (v.key (.slice A n c)) = w6 := ⟨_, rfl⟩)
    rw [hw6] at HP6 HL6 ⊢
    try rw [hw6] at HQ6
    clear hw6
    go_wp2
    refine hK6 _ _ (by exact HL6.out) ?_; clear hK6; intro hS_1_6_4 hD
    refine wpAnyK_one (i := 7) (fuel := 0) (by kernel_rfl) rfl hD ?_
    clear hD; intro K7 hK7
    first
    | (refine wpList_store_rowTo rfl 34 _ _ rfl rfl (W.heap.size + 1) v.sgn rfl rfl 34 ver0.sgn HQ6.out (by kernel_rfl) rfl v.sgn_one ?_
       have HP7 := Lib.hid (HP6.out.row (C := W.heap.size + 1) (ds := v.sgn) hne6)
       have HQ7 := Lib.hid (show BxC _ _ v.sgn 34 from setRow_heap _ _ _ v.sgn _ _ HQ6.out)
       have HL7 := Lib.hid (below_setRow HL6.out (g := W.heap.size + 1) (Nat.le_add_right _ _) v.sgn))
    | (refine wpList_store_rowTo rfl 34 _ _ rfl rfl (W.heap.size) v.sgn rfl rfl 34 ver0.sgn HQ6.out (by kernel_rfl) rfl v.sgn_one ?_
       have HP7 := Lib.hid (HP6.out.row (C := W.heap.size) (ds := v.sgn) hne6)
       have HQ7 := Lib.hid (show BxC _ _ v.sgn 34 from setRow_heap _ _ _ v.sgn _ _ HQ6.out)
       have HL7 := Lib.hid (below_setRow HL6.out (g := W.heap.size) (Nat.le_refl _) v.sgn))
    | (have hlt6 := HP6.out.lt
       refine wpList_store_rowTo rfl 34 _ _ rfl rfl w6.heap.size v.sgn rfl rfl 34 ver0.sgn (BxC.new w6 ver0.sgn 34) (by kernel_rfl) rfl v.sgn_one ?_
       have HP7 := Lib.hid ((HP6.out.alloc (.cells ver0.sgn 34)).row (C := w6.heap.size) (ds := v.sgn) (by omega))
       have HQ7 := Lib.hid (show BxC _ _ v.sgn 34 from setRow_heap _ _ _ v.sgn _ _ (BxC.new w6 ver0.sgn 34))
       have HL7 := Lib.hid (below_setRow (HL6.out.alloc HL6.out.size (.cells ver0.sgn 34)) (g := w6.heap.size) HL6.out.size v.sgn))
    go_wp2
    refine hK7 _ _ (by exact HL7.out) ?_; clear hK7; intro hS_1_7_4 hD
    refine wpAnyK_done (by kernel_rfl) ?_ 0
    clear hD
    exact rest _ _ _ HP7.out HQ7.out HL7.out
  · unfold StepK
    clear hD; intro K5 hK5
    go_wp2
    refine hK5 _ _ (by exact (Below.refl _ _).alloc (Nat.le_refl _) _) ?_; clear hK5; intro hS_1_5 hD
    refine wpAnyK_one (i := 4) (fuel := 2) (by kernel_rfl) rfl hD ?_
    clear hD; intro K4 hK4
    go_wp2
    refine hK4 _ _ (by exact Below.alloc hS_1_5 (Below.size hS_1_5) _) ?_; clear hK4; intro hS_1_4_5 hD
    refine wpAnyK_one (i := 6) (fuel := 1) (by kernel_rfl) rfl hD ?_
    clear hD; intro K6 hK6
    first
    | (refine wpList_store_rowTo rfl 32 _ _ rfl rfl W.heap.size (v.key (.slice A n c)) rfl rfl 32 (ver0.key (.slice none 0 0)) (BxC.new W.drew (ver0.key (.slice none 0 0)) 32) (by kernel_rfl) rfl (v.key_one A n c) ?_
       have HP6 := Lib.hid (show BxC ((W.drew.alloc (.cells (ver0.key (.slice none 0 0)) 32)).setRow W.heap.size (v.key (.slice A n c))) W.heap.size (v.key (.slice A n c)) 32 from setRow_heap _ _ _ _ _ _ (BxC.new W.drew (ver0.key (.slice none 0 0)) 32))
       have HQ6 := Lib.hid (True.intro)
       have HL6 := Lib.hid (show Below W.drew.heap.size W.drew ((W.drew.alloc (.cells (ver0.key (.slice none 0 0)) 32)).setRow W.heap.size (v.key (.slice A n c))) from below_setRow ((Below.refl _ _).alloc (Nat.le_refl _) _) (Nat.le_refl _) _)
       have hne6 := True.intro
       show wpList _ _ _ _ _ ((W.drew.alloc (.cells (ver0.key (.slice none 0 0)) 32)).setRow W.heap.size (v.key (.slice A n c)))
       obtain ⟨w6, hw6⟩ : ∃ w6, (W.drew.alloc (.cells (ver0.key (.slice none 0 0)) 32)).setRow W.heap.size (v.key (.slice A n c)) = w6 := ⟨_, rfl⟩)
    | (refine wpList_store_rowTo rfl 32 _ _ rfl rfl (W.heap.size + 1) (v.key (.slice A n c)) rfl rfl 32 (ver0.key (.slice none 0 0)) (BxC.new1 W.drew (ver0.key (.slice none 0 0)) 32 (.cells (ver0.sgn) 34)) (by kernel_rfl) rfl (v.key_one A n c) ?_
       have HP6 := Lib.hid (show BxC (((W.drew.alloc (.cells (ver0.sgn) 34)).alloc (.cells (ver0.key (.slice none 0 0)) 32)).setRow (W.heap.size + 1) (v.key (.slice A n c))) (W.heap.size + 1) (v.key (.slice A n c)) 32 from setRow_heap _ _ _ _ _ _ (BxC.new1 W.drew (ver0.key (.slice none 0 0)) 32 (.cells (ver0.sgn) 34)))
       have HQ6 := Lib.hid (show BxC (((W.drew.alloc (.cells (ver0.sgn) 34)).alloc (.cells (ver0.key (.slice none 0 0)) 32)).setRow (W.heap.size + 1) (v.key (.slice A n c))) W.heap.size ver0.sgn 34 from (BxC.alloc (BxC.new W.drew ver0.sgn 34) _).row (show W.heap.size ≠ W.heap.size + 1 from by omega))
       have HL6 := Lib.hid (show Below W.drew.heap.size W.drew (((W.drew.alloc (.cells (ver0.sgn) 34)).alloc (.cells (ver0.key (.slice none 0 0)) 32)).setRow (W.heap.size + 1) (v.key (.slice A n c))) from below_setRow (((Below.refl _ _).alloc (Nat.le_refl _) _).alloc (by simp) _) (Nat.le_succ _) _)
       have hne6 : W.heap.size + 1 ≠ W.heap.size := by omega
       show wpList _ _ _ _ _ (((W.drew.alloc (.cells (ver0.sgn) 34)).alloc (.cells (ver0.key (.slice none 0 0)) 32)).setRow (W.heap.size + 1) (v.key (.slice A n c)))
       obtain ⟨w6, hw6⟩ : ∃ w6, ((W.drew.alloc (.cells (ver0.sgn) 34)).alloc (.cells (ver0.key (.slice none 0 0)) 32)).setRow (W.heap.size + 1) (v.key (.slice A n c)) = w6 := ⟨_, rfl⟩)
    | (refine wpList_store_rowTo rfl 32 _ _ rfl rfl W.heap.size (v.key (.slice A n c)) rfl rfl 32 (ver0.key (.slice none 0 0)) (BxC.alloc (BxC.new W.drew (ver0.key (.slice none 0 0)) 32) (.cells (ver0.sgn) 34)) (by kernel_rfl) rfl (v.key_one A n c) ?_
       have HP6 := Lib.hid (show BxC (((W.drew.alloc (.cells (ver0.key (.slice none 0 0)) 32)).alloc (.cells (ver0.sgn) 34)).setRow W.heap.size (v.key (.slice A n c))) W.heap.size (v.key (.slice A n c)) 32 from setRow_heap _ _ _ _ _ _ (BxC.alloc (BxC.new W.drew (ver0.key (.slice none 0 0)) 32) (.cells (ver0.sgn) 34)))
       have HQ6 := Lib.hid (show BxC (((W.drew.alloc (.cells (ver0.key (.slice none 0 0)) 32)).alloc (.cells (ver0.sgn) 34)).setRow W.heap.size (v.key (.slice A n c))) (W.heap.size + 1) ver0.sgn 34 from (BxC.new1 W.drew ver0.sgn 34 _).row (show W.heap.size + 1 ≠ W.heap.size from by omega))
       have HL6 := Lib.hid (show Below W.drew.heap.size W.drew (((W.drew.alloc (.cells (ver0.key (.slice none 0 0)) 32)).alloc (.cells (ver0.sgn) 34)).setRow W.heap.size (v.key (.slice A n c))) from below_setRow (((Below.refl _ _).alloc (Nat.le_refl _) _).alloc (by simp) _) (Nat.le_refl _) _)
       have hne6 : W.heap.size ≠ W.heap.size + 1 := by omega
       show wpList _ _ _ _ _ (((W.drew.alloc (.cells (ver0.key (.slice none 0 0)) 32)).alloc (.cells (ver0.sgn) 34)).setRow W.heap.size (v.key (.slice A n c)))
       obtain ⟨w6, hw6⟩ : ∃ w6, ((W.drew.alloc (.cells (ver0.key (.slice none 0 0)) 32)).alloc (.cells (ver0.sgn) 34)).setRow W.heap.size (v.key (.slice A n c)) = w6 := ⟨_, rfl⟩)
    rw [hw6] at HP6 HL6 ⊢
    try rw [hw6] at HQ6
    clear hw6
    go_wp2
    refine hK6 _ _ (by exact HL6.out) ?_; clear hK6; intro hS_1_6_5 hD
    refine wpAnyK_one (i := 7) (fuel := 0) (by kernel_rfl) rfl hD ?_
    clear hD; intro K7 hK7
    first
    | (refine wpList_store_rowTo rfl 34 _ _ rfl rfl (W.heap.size + 1) v.sgn rfl rfl 34 ver0.sgn HQ6.out (by kernel_rfl) rfl v.sgn_one ?_
       have HP7 := Lib.hid (HP6.out.row (C := W.heap.size + 1) (ds := v.sgn) hne6)
       have HQ7 := Lib.hid (show BxC _ _ v.sgn 34 from setRow_heap _ _ _ v.sgn _ _ HQ6.out)
       have HL7 := Lib.hid (below_setRow HL6.out (g := W.heap.size + 1) (Nat.le_add_right _ _) v.sgn))
    | (refine wpList_store_rowTo rfl 34 _ _ rfl rfl (W.heap.size) v.sgn rfl rfl 34 ver0.sgn HQ6.out (by kernel_rfl) rfl v.sgn_one ?_
       have HP7 := Lib.hid (HP6.out.row (C := W.heap.size) (ds := v.sgn) hne6)
       have HQ7 := Lib.hid (show BxC _ _ v.sgn 34 from setRow_heap _ _ _ v.sgn _ _ HQ6.out)
       have HL7 := Lib.hid (below_setRow HL6.out (g := W.heap.size) (Nat.le_refl _) v.sgn))
    | (have hlt6 := HP6.out.lt
       refine wpList_store_rowTo rfl 34 _ _ rfl rfl w6.heap.size v.sgn rfl rfl 34 ver0.sgn (BxC.new w6 ver0.sgn 34) (by kernel_rfl) rfl v.sgn_one ?_
       have HP7 := Lib.hid ((HP6.out.alloc (.cells ver0.sgn 34)).row (C := w6.heap.size) (ds := v.sgn) (by omega))
       have HQ7 := Lib.hid (show BxC _ _ v.sgn 34 from setRow_heap _ _ _ v.sgn _ _ (BxC.new w6 ver0.sgn 34))
       have HL7 := Lib.hid (below_setRow (HL6.out.alloc HL6.out.size (.cells ver0.sgn 34)) (g := w6.heap.size) HL6.out.size v.sgn))
    go_wp2
    refine hK7 _ _ (by exact HL7.out) ?_; clear hK7; intro hS_1_7_5 hD
    refine wpAnyK_done (by kernel_rfl) ?_ 0
    clear hD
    exact rest _ _ _ HP7.out HQ7.out HL7.out
end Go.Proofs.Ytnfkccohmkfnoaa

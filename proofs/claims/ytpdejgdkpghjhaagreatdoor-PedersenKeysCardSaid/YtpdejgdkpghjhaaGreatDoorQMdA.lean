/- Walk: natural.product in columns, over an array of ints. -/
import Derived.Test.YtpdejgdkpghjhaaGreatDoorQLdB
import Derived.Test.YtpdejgdkpghjhaaGreatDoorQGsa
import Derived.Test.YtpdejgdkpghjhaaGreatDoorQDiv
import Derived.Lib.SliceRun
set_option linter.unusedVariables false
set_option linter.unusedSimpArgs false
namespace Go.Proofs.YtpdejgdkpghjhaaGreatDoor
open Go.RowKit

/-- n ints in a block, cell by cell. -/
structure ColF (w : World) (B n : Nat) (f : Nat → Nat) : Prop where
  cell : ∀ j, j < n → w.cell? ⟨B, j, none⟩ = some (.int .i64 (f j))
  free : ∀ j, j < n → w.frozen? ⟨B, j, none⟩ = false
theorem ColF.drew {w : World} {B n : Nat} {f : Nat → Nat} (h : ColF w B n f) : ColF w.drew B n f := ⟨h.cell, h.free⟩
theorem ColF.set {w : World} {B n p c : Nat} {f : Nat → Nat} (h : ColF w B n f) (hp : p < n) : ColF (w.setCell ⟨B, p, none⟩ (.int .i64 (c : Int))) B n (fun j => if j = p then c else f j) := by
  refine ⟨fun j hj => ?_, fun j hj => by rw [World.frozen?_setCell]; exact h.free j hj⟩
  by_cases e : j = p
  · subst e
    rw [World.cell?_setCell_same _ _ _ (h.cell j hj), if_pos rfl]
  · rw [World.cell?_setCell_other _ _ _ _ (fun he => e (by cases he; rfl)), h.cell j hj]
    simp [e]
theorem ColF.kept {w w' : World} {K B n : Nat} {f : Nat → Nat} (h : ColF w B n f) (hb : Below K w w') (hB : B < K) : ColF w' B n f := by
  have e := hb.block B hB
  refine ⟨fun j hj => ?_, fun j hj => ?_⟩
  · rw [← h.cell j hj]; unfold World.cell?; simp only [e]
  · rw [← h.free j hj]; unfold World.frozen?; simp only [e]
theorem ColF.lt {w : World} {B n : Nat} {f : Nat → Nat} (h : ColF w B n f) (hn : 0 < n) : B < w.heap.size := by
  have h1 := h.cell 0 hn
  rcases Nat.lt_or_ge B w.heap.size with h' | h'
  · exact h'
  · simp [World.cell?, Array.getElem?_eq_none h'] at h1
/-- Cleared columns. -/
theorem ColF.clear {w : World} {B n : Nat} {f : Nat → Nat} (h : ColF w B n f) : ColF (w.setCells B 0 (List.replicate n (.int .i64 0))) B n (fun _ => 0) := by
  refine ⟨fun j hj => ?_, fun j hj => by rw [World.frozen?_setCells]; exact h.free j hj⟩
  have h1 := World.cell?_setCells_in B (List.replicate n (.int .i64 0)) 0 w (fun i hi => by rw [Nat.zero_add, h.cell i (by simpa using hi)]; rfl) j (by simpa using hj)
  rw [Nat.zero_add] at h1
  rw [h1]
  simp

end Go.Proofs.YtpdejgdkpghjhaaGreatDoor
/- Walks: modular.check, reduced, times at moduli below 2^64, Mul. -/
set_option linter.unusedVariables false
set_option linter.unusedSimpArgs false
namespace Go.Proofs.YtpdejgdkpghjhaaGreatDoor
open Go.RowKit

set_option maxRecDepth 100000 in
set_option maxHeartbeats 2000000 in
theorem mod_check (xs ms : List ByteArray) (g c1 n1 B : Nat) (ad : Addr) (n2 c2 : Nat) (w : World) (hown : w.ownsRow B 22 1 (.slice (some ⟨g, 0, none⟩) n1 c1) n1 (xs.map Value.string)) (hs : SlN w (some ad) n2 c2 ms) (hg : ad.block ≠ g) (hlb1 : n1 ≤ 1000) (hlb2 : n2 ≤ 1000) (h0 : 0 < n2) (hB : B ≤ w.heap.size)
    (hv : ∀ (k : Nat) (s : ByteArray), (xs ++ ms)[k]? = some s → nvalid s = true) (hm : ∀ (k : Nat) (s : ByteArray), ms[k]? = some s → s.toList.isEmpty = false) :
    Calls Tryz.prog 115 #[.slice (some ⟨g, 0, none⟩) n1 c1, .slice (some ad) n2 c2] w (RetB B (.int .i64 0) w) := by
  have hl2 := hs.1
  have hlc2 := hs.2.1
  have hmx2 := hs.2.2.1
  have hcells := hs.cells
  have hgB : B ≤ g := (hown.lt g rfl).1
  have HC := Lib.hid hcells
  have HOWN := Lib.hid hown
  have HS := Lib.hid hs
  have HV := Lib.hid hv
  have HM := Lib.hid hm
  have HL := Lib.hid (show (ms.map Value.string).length = n2 * 1 from by rw [List.length_map, hl2, Nat.mul_one])
  obtain ⟨i0, hi, iz0, iz1, iz2⟩ := info_parts nat_info
  clear hcells hown hs hv hm hl2
  go_enter Tryz.func115, Tryz.ntmps115
  go_wp2_with (at_builtin; refine wpList_append_lies _ rfl (.tmp 9) (.tmp 10) 38 rfl B 22 i0 _ 1 16 Tryz.underlying38 hi iz0 iz1 iz2 rfl (by decide) _ n1 (xs.map Value.string) rfl HOWN.out ad n2 c2 (ms.map Value.string) rfl HL.out HC.out (strs_one ms) h0 ?n3 ?n4 hB _ rfl ?_)
  case n3 => unfold maxLen; omega
  case n4 => omega
  intro g2 cap2 w2 hown2 hgrow2 hat2 hlt2
  have hb2 : Below B w w2 := (Below.refl _ _).grown hgrow2 hB (fun k e => by simp only [Value.ownBlock, Option.some.injEq] at e; omega)
  obtain ⟨hl3, A3, c3, hv3, hs3⟩ := SlN.of_owns (l := xs ++ ms) (by rw [List.map_append]; exact hown2)
  simp only [Value.slice.injEq, true_and] at hv3
  obtain ⟨rfl, rfl⟩ := hv3
  have hms2 : SlN w2 (some ad) n2 c2 ms := by
    refine ⟨HS.out.1, HS.out.2.1, HS.out.2.2.1, ?_⟩
    obtain ⟨b', o', h4, h5⟩ := HS.out.2.2.2
    have e := h4 h0
    simp only [Option.some.injEq] at e
    subst e
    refine ⟨b', o', fun _ => rfl, fun k s hk => ?_⟩
    have hc := h5 k s hk
    rw [hgrow2.cell_far ⟨b', o' + k, none⟩ (World.block_lt_of_cell? _ _ hc) (by simp only [Value.ownBlock, ne_eq, Option.some.injEq]; exact hg)]
    exact hc
  have HS3 := Lib.hid hs3
  have HL3 := Lib.hid hl3
  have HMS := Lib.hid hms2
  have HB2 := Lib.hid hb2
  have hcap3 := hs3.2.1
  have hcm3 := hs3.2.2.1
  clear hown2 hgrow2 hat2 hlt2 hb2 hl3 hs3 hms2
  go_wp2
  go_loop [13] (fun i => ∃ k : Nat, k ≤ n1 + n2 ∧ i = .int .i64 k) (fun i => n1 + n2 - (intOf i).toNat)
  case atStart => exact ⟨0, Nat.zero_le _, rfl⟩
  case round =>
    obtain ⟨k, hk, rfl⟩ := hrel
    by_cases hlt : k < n1 + n2
    · obtain ⟨s, he⟩ : ∃ s, (xs ++ ms)[k]? = some s := ⟨_, List.getElem?_eq_getElem (by rw [HL3.out]; exact hlt)⟩
      have c0 := HS3.out.get? k he
      rw [Nat.zero_add] at c0
      have hvs := HV.out k s he
      have hsz : s.size ≤ 128 := by unfold nvalid at hvs; simp at hvs; exact hvs.1
      have HVS := Lib.hid hvs
      clear he hvs
      go_wp2_with fail
      refine (nat_Valid s (by omega) _).mono ?_
      rintro e w1 ⟨rfl, rfl⟩
      rw [HVS.out]
      go_wp2
      go_round
      case rel => exact ⟨k + 1, by omega, by go_num⟩
      case measure => simp [intOf]; omega
    · obtain rfl : k = n1 + n2 := by omega
      go_wp2
      go_loop [23] (fun i => ∃ k : Nat, k ≤ n2 ∧ i = .int .i64 k) (fun i => n2 - (intOf i).toNat)
      case atStart => exact ⟨0, Nat.zero_le _, rfl⟩
      case round =>
        obtain ⟨k, hk, rfl⟩ := hrel
        by_cases hlt : k < n2
        · obtain ⟨s, he⟩ : ∃ s, ms[k]? = some s := ⟨_, List.getElem?_eq_getElem (by rw [HMS.out.1]; exact hlt)⟩
          obtain ⟨b', o', rfl'⟩ := HMS.out.head h0
          have c0 : w2.cell? (ad.add k) = some (.string s) := HMS.out.cells k _ (by rw [List.getElem?_map, he]; rfl)
          have hem := HM.out k s he
          simp only [Option.some.injEq] at rfl'
          subst rfl'
          rw [addr_add] at c0
          clear he
          go_wp2
          go_round
          case rel => exact ⟨k + 1, by omega, by go_num⟩
          case measure => simp [intOf]; omega
        · obtain rfl : k = n2 := by omega
          go_wp2
          go_ret
          exact ⟨rfl, HB2.out⟩

set_option maxRecDepth 100000 in
theorem mod_reduced (x m : Nat) (hx8 : x < 18446744073709551616) (hm : m < 256 ^ 128) (h0 : 0 < m) (w : World) : Calls Tryz.prog 117 #[.string (nS x), .string (nS m)] w (Ret (.string (nS (x % m))) w) := by
  have HD := Lib.hid (nat_DivMod x m hx8 hm h0)
  obtain ⟨s, hs⟩ : ∃ s, nS x = s := ⟨_, rfl⟩
  obtain ⟨t, ht⟩ : ∃ t, nS m = t := ⟨_, rfl⟩
  rw [hs, ht] at HD
  rw [hs, ht]
  clear hs ht hm hx8
  go_enter Tryz.func117, Tryz.ntmps117
  go_wp2_with fail
  refine (HD.out _).mono ?_
  rintro e w1 ⟨rfl, hb⟩
  have HB := Lib.hid hb
  clear hb
  go_wp2
  go_ret
  exact ⟨rfl, HB.out⟩

set_option maxRecDepth 100000 in
set_option maxHeartbeats 2000000 in
theorem mod_times (x y m : Nat) (hx8 : x < 18446744073709551616) (hy8 : y < 18446744073709551616) (hm8 : m < 18446744073709551616) (h0 : 0 < m) (w : World) : Calls Tryz.prog 146 #[.string (nS x), .string (nS y), .string (nS m)] w (Ret (.string (nS (x * y % m))) w) := by
  have hz1 := nS_small_size hx8
  have hz2 := nS_small_size hy8
  have hz3 := nS_small_size hm8
  have HN1 := Lib.hid (nat_Small_n x hx8)
  have HN2 := Lib.hid (nat_Small_n y hy8)
  have HN3 := Lib.hid (nat_Small_n m hm8)
  have hx2 : x % m < 18446744073709551616 := Nat.lt_trans (Nat.mod_lt x h0) hm8
  have hy2 : y % m < 18446744073709551616 := Nat.lt_trans (Nat.mod_lt y h0) hm8
  have HX2 := Lib.hid hx2
  have HY2 := Lib.hid hy2
  obtain ⟨p, hp⟩ : ∃ p, p = x % m * (y % m) := ⟨_, rfl⟩
  have hph : p / 18446744073709551616 < 18446744073709551616 := by
    rw [Nat.div_lt_iff_lt_mul (by decide), hp]
    have h1 := Nat.mul_le_mul (Nat.le_of_lt hx2) (show y % m ≤ 18446744073709551615 by omega)
    omega
  have hpl : p % 18446744073709551616 < 18446744073709551616 := Nat.mod_lt _ (by decide)
  have HR := Lib.hid (bits_Rem64 (p / 18446744073709551616) (p % 18446744073709551616) m hph hm8 hpl h0)
  have HE := Lib.hid (show (p / 18446744073709551616 * 18446744073709551616 + p % 18446744073709551616) % m = x * y % m from by rw [Nat.mul_comm, Nat.div_add_mod, hp, ← Nat.mul_mod])
  have HO := Lib.hid (nat_Of (x * y % m) (Nat.lt_trans (Nat.mod_lt _ h0) hm8))
  have HP := Lib.hid hp
  have hm3 : ¬ (m = 0) := by omega
  have hm2 : (0 : Int) < (m : Int) := by omega
  have hwx : IntKind.u64.wrap ((x : Int) % (m : Int)) = (x : Int) % (m : Int) := u64_wrap (x % m) hx2
  have hwy : IntKind.u64.wrap ((y : Int) % (m : Int)) = (y : Int) % (m : Int) := u64_wrap (y % m) hy2
  obtain ⟨s, hs⟩ : ∃ s, nS x = s := ⟨_, rfl⟩
  obtain ⟨t, ht⟩ : ∃ t, nS y = t := ⟨_, rfl⟩
  obtain ⟨u, hu⟩ : ∃ u, nS m = u := ⟨_, rfl⟩
  rw [hs] at hz1 HN1 ⊢
  rw [ht] at hz2 HN2 ⊢
  rw [hu] at hz3 HN3 ⊢
  have i1 : (s.size : Int) ≤ 8 := by omega
  have i2 : (t.size : Int) ≤ 8 := by omega
  have i3 : (u.size : Int) ≤ 8 := by omega
  clear hs ht hu hx8 hy8 hm8 hx2 hy2 hp hph hpl hz1 hz2 hz3
  go_enter Tryz.func146, Tryz.ntmps146
  go_wp2_with fail
  refine (HN1.out _).mono ?_
  rintro e w1 ⟨rfl, rfl⟩
  go_wp2_with fail
  refine (HN2.out _).mono ?_
  rintro e w1 ⟨rfl, rfl⟩
  go_wp2_with fail
  refine (HN3.out _).mono ?_
  rintro e w1 ⟨rfl, rfl⟩
  go_wp2
  refine wp_region_K 12 (Below (w.drew).heap.size (w.drew)) (by kernel_rfl) ?_
  intro hD
  refine wpAnyK_pure (i := 0) (v := ?v5_0b1) (fuel := 11) rfl (by kernel_rfl) (fun _ _ _ h => h) hD (Below.refl _ _) (.inl ⟨by kernel_rfl, ?y5_0b1⟩) ?n5_0b1
  case y5_0b1 => intro w' _; go_simp; with_reducible rfl
  clear hD; intro hD
  simp only [Act.put, List.setIfInBounds_toArray, List.set_cons_zero, List.set_cons_succ]
  refine wpAnyK_pure (i := 1) (v := ?v5_1b1) (fuel := 10) rfl (by kernel_rfl) (fun _ _ _ h => h) hD (Below.refl _ _) (.inl ⟨by kernel_rfl, ?y5_1b1⟩) ?n5_1b1
  case y5_1b1 => intro w' _; go_simp; with_reducible rfl
  clear hD; intro hD
  simp only [Act.put, List.setIfInBounds_toArray, List.set_cons_zero, List.set_cons_succ]
  refine wpAnyK_pure (i := 2) (v := ?v5_2b1) (fuel := 9) rfl (by kernel_rfl) (fun _ _ _ h => h) hD (Below.refl _ _) (.inl ⟨by kernel_rfl, ?y5_2b1⟩) ?n5_2b1
  case y5_2b1 => intro w' _; go_simp; with_reducible rfl
  clear hD; intro hD
  simp only [Act.put, List.setIfInBounds_toArray, List.set_cons_zero, List.set_cons_succ]
  refine wpAnyK_pure (i := 3) (v := ?v5_3b1) (fuel := 8) rfl (by kernel_rfl) (fun _ _ _ h => h) hD (Below.refl _ _) (.inl ⟨by kernel_rfl, ?y5_3b1⟩) ?n5_3b1
  case y5_3b1 => intro w' _; go_simp; with_reducible rfl
  clear hD; intro hD
  simp only [Act.put, List.setIfInBounds_toArray, List.set_cons_zero, List.set_cons_succ]
  refine wpAnyK_pure (i := 4) (v := ?v5_4b1) (fuel := 7) rfl (by kernel_rfl) (fun _ _ _ h => h) hD (Below.refl _ _) (.inl ⟨by kernel_rfl, ?y5_4b1⟩) ?n5_4b1
  case y5_4b1 => intro w' _; go_simp; with_reducible rfl
  clear hD; intro hD
  simp only [Act.put, List.setIfInBounds_toArray, List.set_cons_zero, List.set_cons_succ]
  refine wpAnyK_pure (i := 5) (v := ?v5_5b1) (fuel := 6) rfl (by kernel_rfl) (fun _ _ _ h => h) hD (Below.refl _ _) (.inl ⟨by kernel_rfl, ?y5_5b1⟩) ?n5_5b1
  case y5_5b1 => intro w' _; go_simp; with_reducible rfl
  clear hD; intro hD
  simp only [Act.put, List.setIfInBounds_toArray, List.set_cons_zero, List.set_cons_succ]
  refine wpAnyK_one (i := 6) (fuel := 5) (by kernel_rfl) rfl hD ?_
  clear hD; intro K6 hK6
  go_wp2_with fail
  refine (Tryz.bits_Mul64 (x % m) (y % m) HX2.out HY2.out _).mono ?_
  rintro e w6 ⟨rfl, rfl⟩
  rw [← HP.out]
  go_wp2
  refine hK6 _ _ (by exact Below.refl _ _) ?_; clear hK6; intro hS_5_6 hD
  refine wpAnyK_pure (i := 7) (v := ?v5_7b1) (fuel := 4) rfl (by kernel_rfl) (fun _ _ _ h => h) hD hS_5_6 (.inl ⟨by kernel_rfl, ?y5_7b1⟩) ?n5_7b1
  case y5_7b1 => intro w' _; go_simp; with_reducible rfl
  clear hD; intro hD
  simp only [Act.put, List.setIfInBounds_toArray, List.set_cons_zero, List.set_cons_succ]
  refine wpAnyK_pure (i := 8) (v := ?v5_8b1) (fuel := 3) rfl (by kernel_rfl) (fun _ _ _ h => h) hD hS_5_6 (.inl ⟨by kernel_rfl, ?y5_8b1⟩) ?n5_8b1
  case y5_8b1 => intro w' _; go_simp; with_reducible rfl
  clear hD; intro hD
  simp only [Act.put, List.setIfInBounds_toArray, List.set_cons_zero, List.set_cons_succ]
  refine wpAnyK_pure (i := 9) (v := ?v5_9b1) (fuel := 2) rfl (by kernel_rfl) (fun _ _ _ h => h) hD hS_5_6 (.inl ⟨by kernel_rfl, ?y5_9b1⟩) ?n5_9b1
  case y5_9b1 => intro w' _; go_simp; with_reducible rfl
  clear hD; intro hD
  simp only [Act.put, List.setIfInBounds_toArray, List.set_cons_zero, List.set_cons_succ]
  refine wpAnyK_one (i := 10) (fuel := 1) (by kernel_rfl) rfl hD ?_
  clear hD; intro K10 hK10
  go_wp2
  refine hK10 _ _ (by exact hS_5_6) ?_; clear hK10; intro hS_5_10 hD
  refine wpAnyK_one (i := 11) (fuel := 0) (by kernel_rfl) rfl hD ?_
  clear hD; intro K11 hK11
  go_wp2
  refine hK11 _ _ (by exact hS_5_10) ?_; clear hK11; intro hS_5_11 hD
  refine wpAnyK_done (by kernel_rfl) ?_ 0
  clear hD
  go_wp2_with fail
  refine (HR.out _).mono ?_
  rintro e w2 ⟨rfl, hb2⟩
  rw [HE.out]
  have HB2 := Lib.hid ((Below.refl _ _).drew.trans hb2)
  clear hb2
  go_wp2_with fail
  refine (HO.out _).mono ?_
  rintro e w3 ⟨rfl, hb3⟩
  have HB3 := Lib.hid (HB2.out.trans (hb3.mono HB2.out.size))
  clear hb3
  go_wp2
  go_ret
  exact ⟨rfl, HB3.out⟩

/-- What is checked: two numbers and a modulus, in new blocks. -/
theorem check_two (w : World) (a b m : ByteArray) (n : Nat) (hn : n = w.heap.size) (ha : nvalid a = true) (hb : nvalid b = true) (hm : nvalid m = true) (h0 : m.toList.isEmpty = false) (n2 : Nat) (hn2 : n2 = w.heap.size + 1) :
    Calls Tryz.prog 115 #[.slice (some ⟨n, 0, none⟩) 2 2, .slice (some ⟨n2, 0, none⟩) 1 1] ((w.alloc (.cells #[.string a, .string b] 22)).alloc (.cells #[.string m] 22)) (RetB w.heap.size (.int .i64 0) ((w.alloc (.cells #[.string a, .string b] 22)).alloc (.cells #[.string m] 22))) := by
  subst hn hn2
  have h1 := (own_alloc w [a, b] 22 w.heap.size (Nat.le_refl _) (by simp [maxLen])).alloc (.cells #[.string m] 22)
  have h2 := sln_alloc (w.alloc (.cells #[.string a, .string b] 22)) [m] 22 (by simp)
  rw [show (w.alloc (.cells #[.string a, .string b] 22)).heap.size = w.heap.size + 1 from by simp] at h2
  refine mod_check [a, b] [m] _ 2 2 w.heap.size _ 1 1 _ h1 h2 (by simp) (by omega) (by omega) (by omega) (by simp; omega) ?_ ?_
  · intro k s hk
    have := List.mem_of_getElem? hk
    simp only [List.cons_append, List.nil_append, List.mem_cons, List.mem_nil_iff, or_false] at this
    rcases this with rfl | rfl | rfl
    · exact ha
    · exact hb
    · exact hm
  · intro k s hk
    have := List.mem_of_getElem? hk
    simp only [List.mem_cons, List.mem_nil_iff, or_false] at this
    rw [this]; exact h0
theorem check_one (w : World) (a m : ByteArray) (n : Nat) (hn : n = w.heap.size) (ha : nvalid a = true) (hm : nvalid m = true) (h0 : m.toList.isEmpty = false) (n2 : Nat) (hn2 : n2 = w.heap.size + 1) :
    Calls Tryz.prog 115 #[.slice (some ⟨n, 0, none⟩) 1 1, .slice (some ⟨n2, 0, none⟩) 1 1] ((w.alloc (.cells #[.string a] 22)).alloc (.cells #[.string m] 22)) (RetB w.heap.size (.int .i64 0) ((w.alloc (.cells #[.string a] 22)).alloc (.cells #[.string m] 22))) := by
  subst hn hn2
  have h1 := (own_alloc w [a] 22 w.heap.size (Nat.le_refl _) (by simp [maxLen])).alloc (.cells #[.string m] 22)
  have h2 := sln_alloc (w.alloc (.cells #[.string a] 22)) [m] 22 (by simp)
  rw [show (w.alloc (.cells #[.string a] 22)).heap.size = w.heap.size + 1 from by simp] at h2
  refine mod_check [a] [m] _ 1 1 w.heap.size _ 1 1 _ h1 h2 (by simp) (by omega) (by omega) (by omega) (by simp; omega) ?_ ?_
  · intro k s hk
    have := List.mem_of_getElem? hk
    simp only [List.cons_append, List.nil_append, List.mem_cons, List.mem_nil_iff, or_false] at this
    rcases this with rfl | rfl
    · exact ha
    · exact hm
  · intro k s hk
    have := List.mem_of_getElem? hk
    simp only [List.mem_cons, List.mem_nil_iff, or_false] at this
    rw [this]; exact h0

set_option maxRecDepth 100000 in
theorem mod_Mul (x y m : Nat) (hx8 : x < 18446744073709551616) (hy8 : y < 18446744073709551616) (hm8 : m < 18446744073709551616) (h0 : 0 < m) (w : World) : Calls Tryz.prog 88 #[.string (nS x), .string (nS y), .string (nS m)] w (Ret (.tuple #[.string (nS (x * y % m)), .int .i64 0]) w) := by
  have HC := Lib.hid (fun w => check_two w (nS x) (nS y) (nS m) _ rfl (nS_valid_small hx8) (nS_valid_small hy8) (nS_valid_small hm8) (empty_nS h0) _ rfl)
  have HT := Lib.hid (mod_times x y m hx8 hy8 hm8 h0)
  obtain ⟨s, hs⟩ : ∃ s, nS x = s := ⟨_, rfl⟩
  obtain ⟨t, ht⟩ : ∃ t, nS y = t := ⟨_, rfl⟩
  obtain ⟨u, hu⟩ : ∃ u, nS m = u := ⟨_, rfl⟩
  rw [hs, ht, hu] at HC HT
  rw [hs, ht, hu]
  clear hs ht hu hx8 hy8 hm8
  go_enter Tryz.func88, Tryz.ntmps88
  go_wp2_with fail
  refine (HC.out w).mono ?_
  rintro e w1 ⟨rfl, hb1⟩
  have HB1 := Lib.hid ((((Below.refl w.heap.size w).alloc (Nat.le_refl _) _).alloc (by simp) _).trans hb1)
  clear hb1
  go_wp2_with fail
  refine (HT.out _).mono ?_
  rintro e w2 ⟨rfl, hb2⟩
  have HB2 := Lib.hid (HB1.out.trans (hb2.mono HB1.out.size))
  clear hb2
  go_wp2
  go_ret2
  exact ⟨rfl, HB2.out⟩
end Go.Proofs.YtpdejgdkpghjhaaGreatDoor

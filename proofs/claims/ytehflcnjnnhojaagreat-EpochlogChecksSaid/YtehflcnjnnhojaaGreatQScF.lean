import Derived.Test.YtehflcnjnnhojaaGreatQScC
import Derived.Test.YtehflcnjnnhojaaGreatQPeB
set_option linter.unusedVariables false
set_option linter.unusedSimpArgs false
namespace Go.Proofs.YtehflcnjnnhojaaGreat
set_option maxRecDepth 100000
set_option maxHeartbeats 1000000
open Go.RowKit Go.Lib
theorem cmpI_ltC {x y : Nat} : (cmpI x y < 0) = (x < y) := by
 unfold cmpI
 rw [eq_iff_iff]
 split
 · simp_all
 · split <;> simp_all
def SG (w W : World) (M O G Y c r : ByteArray) : Prop := SB w W M O G Y ∧ Bx2 W (w.heap.size + 1) (.string c) (.string r) 29
theorem SG.new (w : World) (M O G Y c r : ByteArray) : SG w ((w.alloc (.cells #[.string M, .string O, .string G, .string Y] 26)).alloc (.cells #[.string c, .string r] 29)) M O G Y c r := by
 refine ⟨(SB.new w M O G Y).next ((Below.refl _ _).alloc (Nat.le_refl _) _), ?_⟩
 have := Bx2.new (w.alloc (.cells #[.string M, .string O, .string G, .string Y] 26)) (.string c) (.string r) 29
 rwa [World.size_alloc] at this
theorem SG.next {w W W' : World} {M O G Y c r : ByteArray} (h : SG w W M O G Y c r) (hb : Below W.heap.size W W') : SG w W' M O G Y c r := ⟨h.1.next hb, h.2.next hb⟩
theorem sc_below (M O G Y c r : ByteArray) (vO : nvalid O = true) (vc : nvalid c = true) (vr : nvalid r = true) (w : World) : Calls Tryz.prog 31 #[kV M O G Y, .agg #[.string c, .string r]] w (Ret (.bool (decide (num c < num O ∧ num r < num O))) w) := by
 have lO := nvalid_lt vO
 have lc := nvalid_lt vc
 have lr := nvalid_lt vr
 have HC1 := Hq (nat_Cmp (nS (num c)) (nS (num O)) (by have := nS_size_le.2 lc; omega) (by have := nS_size_le.2 lO; omega))
 have HC2 := Hq (nat_Cmp (nS (num r)) (nS (num O)) (by have := nS_size_le.2 lr; omega) (by have := nS_size_le.2 lO; omega))
 rw [ncmp_n lc lO, ← nS_num vc, ← nS_num vO] at HC1
 rw [ncmp_n lr lO, ← nS_num vr, ← nS_num vO] at HC2
 have h1 := cmpI_ltC (x := num c) (y := num O)
 have h2 := cmpI_ltC (x := num r) (y := num O)
 obtain ⟨k1, hk1⟩ : ∃ k, cmpI (num c) (num O) = k := ⟨_, rfl⟩
 obtain ⟨k2, hk2⟩ : ∃ k, cmpI (num r) (num O) = k := ⟨_, rfl⟩
 rw [hk1] at HC1 h1
 rw [hk2] at HC2 h2
 have HX0 := Hq (SG.new w M O G Y c r)
 obtain ⟨W0, hW0⟩ : ∃ W, (w.alloc (.cells #[.string M, .string O, .string G, .string Y] 26)).alloc (.cells #[.string c, .string r] 29) = W := ⟨_, rfl⟩
 rw [hW0] at HX0
 obtain ⟨c0, c1, c2, c3⟩ := HX0.out.1.1.cells
 have d0 := HX0.out.2.c0
 have d1 := HX0.out.2.c1
 by_cases ha : num c < num O
 · have hneg : k1 < 0 := by rw [h1]; exact ha
   have HR := Hq (show decide (num c < num O ∧ num r < num O) = decide (k2 < 0) from by
    rw [decide_eq_decide, h2]; exact ⟨fun h => h.2, fun h => ⟨ha, h⟩⟩)
   rw [HR.out]
   unfold kV
   clear hk1 hk2 h1 h2 ha lO lc lr
   go_enter Tryz.func31, Tryz.ntmps31
   go_wp2_with fail
   try rw [hW0]
   clear hW0
   refine (HC1.out _).mono ?_
   rintro ev w1 ⟨rfl, rfl⟩
   go_wp2_with fail
   refine (HC2.out _).mono ?_
   rintro ev w2 ⟨rfl, rfl⟩
   go_wp2
   go_ret
   exact ⟨rfl, HX0.out.1.2⟩
 · have hneg : ¬ (k1 < 0) := by rw [h1]; exact ha
   have HR := Hq (show decide (num c < num O ∧ num r < num O) = false from decide_eq_false fun h => ha h.1)
   rw [HR.out]
   unfold kV
   clear hk1 hk2 h1 h2 ha lO lc lr
   go_enter Tryz.func31, Tryz.ntmps31
   go_wp2_with fail
   try rw [hW0]
   clear hW0
   refine (HC1.out _).mono ?_
   rintro ev w1 ⟨rfl, rfl⟩
   go_wp2
   go_ret
   exact ⟨rfl, HX0.out.1.2⟩
end Go.Proofs.YtehflcnjnnhojaaGreat
namespace Go.Proofs.YtehflcnjnnhojaaGreat
open Go.RowKit Go.Lib
theorem scK_ok {M O G Y : ByteArray} (h : scK M O G Y = 0) : [M, O, G, Y].all nvalid = true ∧ chkK M O = 0 ∧ num O ≠ 0 ∧ genK M O G = true ∧ genK M O Y = true := by
 unfold scK at h
 split at h
 · rename_i hv
   split at h
   · rename_i hc
     split at h
     · cases h
     · rename_i hn
       have hn : (O.toList.isEmpty || !genK M O G || !genK M O Y) = false := by simpa using hn
       rw [Bool.or_eq_false_iff, Bool.or_eq_false_iff] at hn
       refine ⟨hv, hc, fun e => ?_, by simpa using hn.1.2, by simpa using hn.2⟩
       have := hn.1.1
       rw [nS_num (all_four hv).2.1, e] at this
       rw [show (nS 0).toList.isEmpty = true from sempty_true rfl] at this
       cases this
   · rename_i hc
     exact absurd h hc
 · cases h
theorem genK_parts {M O x : ByteArray} (h : genK M O x = true) : hasN (num M) (num O) (num x) = true ∧ nvalid x = true ∧ num x ≠ 1 := by
 unfold genK at h
 rw [Bool.and_eq_true] at h
 have hk := hasK_parts h.1
 refine ⟨hk.2.2, hk.2.1, fun e => ?_⟩
 have := h.2
 rw [nS_num hk.2.1, nS_is1, e] at this
 simp at this
end Go.Proofs.YtehflcnjnnhojaaGreat
namespace Go.Proofs.YtehflcnjnnhojaaGreat
set_option maxRecDepth 100000
set_option maxHeartbeats 1000000
open Go.RowKit Go.Lib
theorem r33_raise (M O x e : ByteArray) (hM : M.size ≤ 8) (vM : nvalid M = true) (hm : 0 < num M) (vx : nvalid x = true) (ve : nvalid e = true) (w : World) : Calls Tryz.prog 81 #[gV M O, .string x, .string e] w (Ret (.string (nS (num x ^ num e % num M))) w) := by
 have HEX := Hq (r03_Exp (num x) (num e) (num M) (nvalid_lt vx) (nvalid_lt ve) (num_small hM) hm)
 rw [← nS_num vx, ← nS_num ve, ← nS_num vM] at HEX
 obtain ⟨z, hz⟩ : ∃ z, nS (num x ^ num e % num M) = z := ⟨_, rfl⟩
 rw [hz] at HEX ⊢
 have HX0 := Hq (Bx2.new w (.string M) (.string O) 24)
 have HB0 := Hq ((Below.refl w.heap.size w).alloc (Nat.le_refl _) (.cells #[.string M, .string O] 24))
 have c0 := HX0.out.c0
 unfold gV
 clear hz hM vM hm vx ve
 go_enter Tryz.func81, Tryz.ntmps81
 go_wp2_with fail
 refine (HEX.out _).mono ?_
 rintro ev w1 ⟨rfl, hb⟩
 have HB1 := Hq (HB0.out.trans (hb.mono HB0.out.size))
 clear hb c0
 go_wp2
 go_ret
 exact ⟨rfl, HB1.out⟩
def cmS (m q g y c r : Nat) : Nat := g ^ r * y ^ (q - c) % m
theorem pz_neg {m y i q c : Nat} (hu : Un m y i) (hp : y ^ q % m = 1) (hc : c < q) : pz m y (-(c : Int)) = y ^ (q - c) % m := by
 rw [← pz_nat]
 have h1 := pz_red hu hp (-(c : Int))
 have h2 := pz_red hu hp ((q - c : Nat) : Int)
 rw [← h1, ← h2]
 congr 1
 have e : ((q - c : Nat) : Int) = -(c : Int) + q * 1 := by omega
 rw [e, Int.add_mul_emod_self_left]
theorem cmS_pz {m y i q g c r : Nat} (hu : Un m y i) (hp : y ^ q % m = 1) (hc : c < q) : pz m g (r : Int) * pz m y (-(c : Int)) % m = cmS m q g y c r := by
 rw [pz_neg hu hp hc, pz_nat, cmS, ← Nat.mul_mod]
end Go.Proofs.YtehflcnjnnhojaaGreat

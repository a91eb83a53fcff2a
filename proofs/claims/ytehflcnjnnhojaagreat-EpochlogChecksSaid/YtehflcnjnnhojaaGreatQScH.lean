import Derived.Test.YtehflcnjnnhojaaGreatQScF
import Derived.Test.YtehflcnjnnhojaaGreatQPeR
import Derived.Test.YtehflcnjnnhojaaGreatQScA
set_option linter.unusedVariables false
set_option linter.unusedSimpArgs false
namespace Go.Proofs.YtehflcnjnnhojaaGreat
set_option maxRecDepth 100000
set_option maxHeartbeats 2000000
open Go.RowKit Go.Lib
theorem ex_two {M O G Y c r : ByteArray} (hc : chkK M O = 0) (hO : 0 < num O) (vG : nvalid G = true) (vY : nvalid Y = true) (hG : hasN (num M) (num O) (num G) = true) (hY : hasN (num M) (num O) (num Y) = true) (vc : nvalid c = true) (vr : nvalid r = true) (hcq : num c < num O) :
 prR M O [G, Y] [(false, r), (!(c.toList.isEmpty), c)] = .tuple #[.string (nS (cmS (num M) (num O) (num G) (num Y) (num c) (num r))), .int .i64 0] := by
 have lr := nvalid_lt vr
 have lc := nvalid_lt vc
 have e1 : (false, r) = (decide (((num r : Nat) : Int) < 0), nS ((num r : Nat) : Int).natAbs) := by rw [Int.natAbs_natCast, decide_eq_false (by omega), ← nS_num vr]
 have e2 : (!(c.toList.isEmpty), c) = (decide (-((num c : Nat) : Int) < 0), nS (-((num c : Nat) : Int)).natAbs) := by
  rw [Int.natAbs_neg, Int.natAbs_natCast, ← nS_num vc]
  congr 1
  by_cases h : num c = 0
  · rw [show c.toList.isEmpty = true from by rw [nS_num vc, h]; exact sempty_true rfl, h]; rfl
  · rw [show c.toList.isEmpty = false from by rw [nS_num vc]; exact empty_nS (by omega), decide_eq_true (by omega)]; rfl
 rw [e1, e2]
 unfold prR
 rw [if_pos (show ckR M O [G, Y] [(decide (((num r : Nat) : Int) < 0), nS ((num r : Nat) : Int).natAbs), (decide (-((num c : Nat) : Int) < 0), nS (-((num c : Nat) : Int)).natAbs)] (decide ([G, Y].length = [(decide (((num r : Nat) : Int) < 0), nS ((num r : Nat) : Int).natAbs), (decide (-((num c : Nat) : Int) < 0), nS (-((num c : Nat) : Int)).natAbs)].length)) = 0 from cka_two vG vY (zvalid_all (by rw [Int.natAbs_natCast]; exact lr)) (zvalid_all (by rw [Int.natAbs_neg, Int.natAbs_natCast]; exact lc)) hc hG hY)]
 have e : prV (num M) [G, Y] [(decide (((num r : Nat) : Int) < 0), nS ((num r : Nat) : Int).natAbs), (decide (-((num c : Nat) : Int) < 0), nS (-((num c : Nat) : Int)).natAbs)] = cmS (num M) (num O) (num G) (num Y) (num c) (num r) := by
  show baseN (num G) (decide (((num r : Nat) : Int) < 0)) (num M) ^ (num (nS ((num r : Nat) : Int).natAbs) / 2 ^ 0) * (baseN (num Y) (decide (-((num c : Nat) : Int) < 0)) (num M) ^ (num (nS (-((num c : Nat) : Int)).natAbs) / 2 ^ 0) * 1) % num M = _
  rw [num_nS, num_nS, Nat.pow_zero, Nat.div_one, Nat.div_one, Nat.mul_one, pz_two]
  have hcn : chkN (num M) (num O) = 0 := (chkK_parts hc).2.2
  obtain ⟨i, hu⟩ := has_un hcn hY
  exact cmS_pz hu (has_ord hO hY) hcq
 rw [e]
def BoxC (W : World) (B : Nat) (s : ByteArray) : Prop := W.heap[B]? = some (.cells #[.string s] 76 (0, 0))
theorem BoxC.nextC {W W' : World} {B : Nat} {s : ByteArray} (h : BoxC W B s) (hb : Below W.heap.size W W') : BoxC W' B s := (hb.block _ (block_lt h)).trans h
theorem BoxC.c {W : World} {B : Nat} {s : ByteArray} (h : BoxC W B s) : W.cell? ⟨B, 0, none⟩ = some (.string s) := by rw [Lib.cell_of_heap h]; rfl
theorem BoxC.f {W : World} {B : Nat} {s : ByteArray} (h : BoxC W B s) : W.frozen? ⟨B, 0, none⟩ = false := Lib.frozen_of_heap h 0
theorem BoxC.set {W : World} {B : Nat} {s t : ByteArray} (h : BoxC W B s) : BoxC (W.setCell ⟨B, 0, none⟩ (.string t)) B t := block_setCell h _
theorem sc_commitmentOf (M O G Y c r : ByteArray) (hM : M.size ≤ 8) (hk : scK M O G Y = 0) (vc : nvalid c = true) (vr : nvalid r = true) (hcq : num c < num O) (w : World) : Calls Tryz.prog 33 #[kV M O G Y, .agg #[.string c, .string r]] w (Ret (.agg #[.string (nS (cmS (num M) (num O) (num G) (num Y) (num c) (num r)))]) w) := by
 obtain ⟨hv, hc, hz, hg, hy⟩ := scK_ok hk
 obtain ⟨v1, v2, v3, v4⟩ := all_four hv
 have h8 := chk_small hv hM hc
 have hpr := ex_two (M := M) (O := O) (G := G) (Y := Y) (c := c) (r := r) hc (by omega) v3 v4 (genK_parts hg).1 (genK_parts hy).1 vc vr hcq
 obtain ⟨z, hz2⟩ : ∃ z, nS (cmS (num M) (num O) (num G) (num Y) (num c) (num r)) = z := ⟨_, rfl⟩
 rw [hz2] at hpr ⊢
 obtain ⟨nz, hnz⟩ : ∃ b, c.toList.isEmpty = b := ⟨_, rfl⟩
 rw [hnz] at hpr
 have sz : ∀ {s : ByteArray}, nvalid s = true → s.size ≤ 1000 := fun h => by rw [nS_num h]; have := nS_size_le.2 (nvalid_lt h); omega
 have sG := sz v3
 have sY := sz v4
 have sc := sz vc
 have sr := sz vr
 have HPR := Hq (fun A B w hl hz => pw_Product M O [G, Y] [(false, r), (!nz, c)] A B 2 2 2 2 hM h8 (by intro s hs; simp at hs; rcases hs with h | h <;> subst h <;> assumption) (by intro t ht; simp at ht; rcases ht with h | h <;> subst h <;> assumption) (by omega) (by omega) w hl hz)
 rw [hpr] at HPR
 -- the boxes
 have hx0 := SG.new w M O G Y c r
 obtain ⟨W0, hW0⟩ : ∃ W, (w.alloc (.cells #[.string M, .string O, .string G, .string Y] 26)).alloc (.cells #[.string c, .string r] 29) = W := ⟨_, rfl⟩
 rw [hW0] at hx0
 have hsz0 : W0.heap.size = w.heap.size + 1 + 1 := by rw [← hW0]; simp
 have hb1 := (Below.refl W0.heap.size W0).alloc (Nat.le_refl _) (.cells #[.string ⟨#[]⟩] 76)
 have hx1 := hx0.next hb1
 have hr1 : BoxC (W0.alloc (.cells #[.string ⟨#[]⟩] 76)) W0.heap.size ⟨#[]⟩ := heap_alloc_new _ _
 obtain ⟨W1, hW1⟩ : ∃ W, W0.alloc (.cells #[.string ⟨#[]⟩] 76) = W := ⟨_, rfl⟩
 rw [hW1] at hx1 hr1
 obtain ⟨B, hB⟩ : ∃ B, W0.heap.size = B := ⟨_, rfl⟩
 rw [hB] at hr1
 have hsl := sln_alloc W1 [G, Y] 22 (by simp)
 have hb2 := (Below.refl W1.heap.size W1).alloc (Nat.le_refl _) (.cells #[.string G, .string Y] 22)
 have hx2 := hx1.next hb2
 have hr2 := hr1.nextC hb2
 obtain ⟨W2, hW2⟩ : ∃ W, W1.alloc (.cells #[.string G, .string Y] 22) = W := ⟨_, rfl⟩
 have hslz := slz_alloc2 W2 false (!nz) r c 104
 have hsl2 : SlN W2 (some ⟨W1.heap.size, 0, none⟩) 2 2 [G, Y] := hW2 ▸ hsl
 rw [hW2] at hx2 hr2
 have hb3 := (Below.refl W2.heap.size W2).alloc (Nat.le_refl _) (.cells #[.bool false, .string r, .bool (!nz), .string c] 104)
 have HPP := Hq (HPR.out _ _ _ (hsl2.kept hb3 (Nat.le_refl _)) hslz)
 have HX3 := Hq (hx2.next hb3)
 have HR3 := Hq (hr2.nextC hb3)
 obtain ⟨c0, c1, c2, c3⟩ := hx1.1.1.cells
 obtain ⟨e0, e1, e2, e3⟩ := hx2.1.1.cells
 have d0 := hx2.2.c0
 have d1 := hx2.2.c1
 have HBB := Hq (show w.heap.size ≤ B from by omega)
 clear hx0 hx1 hx2 hr1 hr2 hb1 hb2 hb3 hsl hsl2 hslz hpr hz2 sG sY sc sr sz hv hc hz hg hy v1 v2 v3 v4 h8 hk hM vc vr hcq
 unfold kV gV at *
 go_enter Tryz.func33, Tryz.ntmps33
 go_wp2_with fail
 refine HPP.out.mono ?_
 rintro en w' ⟨rfl, hb'⟩
 have HR4 := Hq (HR3.out.nextC hb')
 have HX4 := Hq (HX3.out.next hb')
 have HBl := Hq (show w.heap.size < w'.heap.size from by have := HX3.out.next hb'; exact this.1.1.lt)
 have hbe : B = w.heap.size + 1 + 1 := by omega
 subst hbe
 have r0 := HR4.out.c
 have r1 := HR4.out.f
 go_wp2_with fail
 have q0 := (HR4.out.set (t := z)).c
 exact bodyPost_ret (v := .agg #[.string z]) (by simp [results, Tryz.results33, go_sem, q0]) rfl ⟨rfl, HX4.out.1.2.setCell (p := ⟨w.heap.size + 1 + 1, 0, none⟩) (show w.heap.size ≤ w.heap.size + 1 + 1 by omega) _⟩
end Go.Proofs.YtehflcnjnnhojaaGreat
namespace Go.Proofs.YtehflcnjnnhojaaGreat
set_option maxRecDepth 100000
set_option maxHeartbeats 2000000
open Go.RowKit Go.Lib
def sgL : ByteArray := ⟨#[115, 99, 104, 110, 111, 114, 114, 32, 115, 105, 103, 110, 97, 116, 117, 114, 101]⟩
def keyL : ByteArray := ⟨#[107, 101, 121]⟩
def comL : ByteArray := ⟨#[99, 111, 109, 109, 105, 116, 109, 101, 110, 116]⟩
def mesL : ByteArray := ⟨#[109, 101, 115, 115, 97, 103, 101]⟩
theorem ch_state (M O G Y R msg : ByteArray) : trH 65 (dt [bstr (trH 76 (dt ([bstr (trH 76 (dt ([bstr (trH 78 (dt [sgL])), keyL] ++ [M, O, G, Y]))), comL] ++ [R]))), mesL, msg]) = snL M.data.toList O.data.toList G.data.toList Y.data.toList R.data.toList msg.data.toList := by
 simp only [dt, List.map_cons, List.map_nil, List.cons_append, List.nil_append, bstr_data]
 rfl
theorem trs (k : UInt8) (l : List (List UInt8)) : (bstr (trH k l)).size ≤ 1000000 := by rw [bstr_size, trH_length]; decide
theorem four_mem {M O G Y : ByteArray} {m : Nat} (h1 : M.size ≤ m) (h2 : O.size ≤ m) (h3 : G.size ≤ m) (h4 : Y.size ≤ m) : ∀ s ∈ [M, O, G, Y], s.size ≤ m := by
 intro s hs
 simp at hs
 rcases hs with rfl | rfl | rfl | rfl <;> assumption
theorem sc_challenge (M O G Y R msg : ByteArray) (hM : M.size ≤ 8) (hO : O.size ≤ 8) (hG : G.size ≤ 1000000) (hY : Y.size ≤ 1000000) (hR : R.size ≤ 1000000) (hm : msg.size ≤ 1000000) (vO : nvalid O = true) (h0 : 0 < num O) (w : World) :
 Calls Tryz.prog 32 #[kV M O G Y, .string R, .string msg] w (Ret (.string (nS (chL (snL M.data.toList O.data.toList G.data.toList Y.data.toList R.data.toList msg.data.toList) O.size (num O)))) w) := by
 obtain ⟨s1, hs1⟩ : ∃ s, bstr (trH 78 (dt [sgL])) = s := ⟨_, rfl⟩
 obtain ⟨s2, hs2⟩ : ∃ s, bstr (trH 76 (dt ([s1, keyL] ++ [M, O, G, Y]))) = s := ⟨_, rfl⟩
 obtain ⟨s3, hs3⟩ : ∃ s, bstr (trH 76 (dt ([s2, comL] ++ [R]))) = s := ⟨_, rfl⟩
 obtain ⟨s4, hs4⟩ : ∃ s, bstr (trH 65 (dt [s3, mesL, msg])) = s := ⟨_, rfl⟩
 have z1 : s1.size ≤ 1000000 := by rw [← hs1]; exact trs _ _
 have z2 : s2.size ≤ 1000000 := by rw [← hs2]; exact trs _ _
 have z3 : s3.size ≤ 1000000 := by rw [← hs3]; exact trs _ _
 have z4 : s4.size ≤ 1000000 := by rw [← hs4]; exact trs _ _
 have hst : s4.data.toList = snL M.data.toList O.data.toList G.data.toList Y.data.toList R.data.toList msg.data.toList := by
  rw [← hs4, bstr_data, ← hs3, ← hs2, ← hs1, ch_state]
 have H1 := Hq (tr_New sgL (by decide))
 rw [hs1] at H1
 have H2 := Hq (fun w1 => tr_Nats s1 keyL (some ⟨World.heap w1 |>.size, 0, none⟩) 4 4 [M, O, G, Y] z1 (by decide) (by omega) (four_mem (by omega) (by omega) hG hY) _ (sln_alloc w1 [M, O, G, Y] 22 (by simp)))
 rw [hs2] at H2
 have H3 := Hq (fun w1 => tr_Nats s2 comL (some ⟨World.heap w1 |>.size, 0, none⟩) 1 1 [R] z2 (by decide) (by omega) (by simpa using hR) _ (sln_alloc w1 [R] 22 (by simp)))
 rw [hs3] at H3
 have H4 := Hq (tr_Add s3 mesL msg z3 (by decide) hm)
 rw [hs4] at H4
 have H5 := Hq (tr_Challenge s4 O z4 vO h0 hO)
 rw [hst] at H5
 obtain ⟨r, hr⟩ : ∃ r, nS (chL (snL M.data.toList O.data.toList G.data.toList Y.data.toList R.data.toList msg.data.toList) O.size (num O)) = r := ⟨_, rfl⟩
 rw [hr] at H5 ⊢
 have HX0 := Hq (SB.new w M O G Y)
 obtain ⟨W0, hW0⟩ : ∃ W, w.alloc (.cells #[.string M, .string O, .string G, .string Y] 26) = W := ⟨_, rfl⟩
 rw [hW0] at HX0
 obtain ⟨c0, c1, c2, c3⟩ := HX0.out.1.cells
 unfold kV
 clear hs1 hs2 hs3 hs4 z1 z2 z3 z4 hst hr vO h0
 go_enter Tryz.func32, Tryz.ntmps32
 go_wp2_with fail
 try rw [hW0]
 clear hW0
 refine (H1.out _).mono ?_
 rintro ev w1 ⟨rfl, hb⟩
 have HX1 := Hq (HX0.out.next hb)
 clear hb c0 c1 c2 c3
 obtain ⟨c0, c1, c2, c3⟩ := HX1.out.1.cells
 have HX2 := Hq (HX1.out.next ((Below.refl w1.heap.size w1).alloc (Nat.le_refl _) (.cells #[.string M, .string O, .string G, .string Y] 22)))
 go_wp2_with fail
 refine (H2.out _).mono ?_
 rintro ev w2 ⟨rfl, hb⟩
 have HX3 := Hq (HX2.out.next hb)
 clear hb c0 c1 c2 c3
 have HX4 := Hq (HX3.out.next ((Below.refl w2.heap.size w2).alloc (Nat.le_refl _) (.cells #[.string R] 22)))
 go_wp2_with fail
 refine (H3.out _).mono ?_
 rintro ev w3 ⟨rfl, hb⟩
 have HX5 := Hq (HX4.out.next hb)
 clear hb
 go_wp2
 obtain ⟨wd, hwd⟩ : ∃ wd, w3.drew = wd := ⟨_, rfl⟩
 have HXD := Hq (show SB w wd M O G Y from by rw [← hwd]; exact HX5.out.next (Below.refl _ _).drew)
 obtain ⟨c0, c1, c2, c3⟩ := HXD.out.1.cells
 refine wp_region_K 12 (Below (wd).heap.size (wd)) (by kernel_rfl) ?_
 intro hD
 rw [hwd]
 refine rP 0 29 11 rfl hD (Below.refl _ _) ?_; clear hD; intro hD; simp only [Act.put, sqA, sqB, sqC]
 refine rP 1 30 10 rfl hD (Below.refl _ _) ?_; clear hD; intro hD; simp only [Act.put, sqA, sqB, sqC]
 refine rP 3 32 9 rfl hD (Below.refl _ _) ?_; clear hD; intro hD; simp only [Act.put, sqA, sqB, sqC]
 refine rP 4 33 8 rfl hD (Below.refl _ _) ?_; clear hD; intro hD; simp only [Act.put, sqA, sqB, sqC]
 refine rT 5 34 7 rfl hD (Below.refl _ _) (by intro w' hS'; have e0 := kC hS' c0; have e1 := kC hS' c1; have e2 := kC hS' c2; have e3 := kC hS' c3; go_simp; with_reducible rfl) ?_; clear hD; intro hD; simp only [Act.put, sqA, sqB, sqC]
 refine rO 2 6 rfl hD ?_; clear hD; intro K2 hK2
 go_wp2_with fail
 refine (H4.out _).mono ?_
 rintro ev w4 ⟨rfl, hb⟩
 have HB2 := Hq hb
 clear hb
 go_wp2
 refine hK2 _ _ (by exact HB2.out) ?_; clear hK2; intro hS_4_2 hD
 refine rO 6 5 rfl hD ?_; clear hD; intro K6 hK6
 go_wp2_with fail
 refine (H5.out _).mono ?_
 rintro ev w5 ⟨rfl, hb⟩
 have HB6 := Hq hb
 clear hb
 go_wp2
 refine hK6 _ _ (by exact Below.trans hS_4_2 (Below.mono HB6.out (Below.size hS_4_2))) ?_; clear hK6; intro hS_4_6 hD
 refine rP 7 28 4 rfl hD hS_4_6 ?_; clear hD; intro hD; simp only [Act.put, sqA, sqB, sqC]
 refine rP 8 36 3 rfl hD hS_4_6 ?_; clear hD; intro hD; simp only [Act.put, sqA, sqB, sqC]
 refine rP 9 37 2 rfl hD hS_4_6 ?_; clear hD; intro hD; simp only [Act.put, sqA, sqB, sqC]
 refine rO 10 1 rfl hD ?_; clear hD; intro K10 hK10
 go_wp2
 refine hK10 _ _ (by exact hS_4_6) ?_; clear hK10; intro hS_4_10 hD
 refine rO 11 0 rfl hD ?_; clear hD; intro K11 hK11
 go_wp2
 refine hK11 _ _ (by exact hS_4_10) ?_; clear hK11; intro hS_4_11 hD
 have HL := Hq hS_4_11
 refine wpAnyK_done (by kernel_rfl) ?_ 0
 clear hD
 go_wp2
 go_ret
 exact ⟨rfl, (HXD.out.next HL.out).2⟩
theorem r33_challenge (M O G Y R msg : ByteArray) (hM : M.size ≤ 8) (hO : O.size ≤ 8) (hG : G.size ≤ 1000000) (hY : Y.size ≤ 1000000) (hR : R.size ≤ 1000000) (hm : msg.size ≤ 1000000) (vO : nvalid O = true) (h0 : 0 < num O) (w : World) :
 Calls Tryz.prog 44 #[kV M O G Y, .string R, .string msg] w (Ret (.string (nS (chL (snL M.data.toList O.data.toList G.data.toList Y.data.toList R.data.toList msg.data.toList) O.size (num O)))) w) := by
 obtain ⟨s1, hs1⟩ : ∃ s, bstr (trH 78 (dt [sgL])) = s := ⟨_, rfl⟩
 obtain ⟨s2, hs2⟩ : ∃ s, bstr (trH 76 (dt ([s1, keyL] ++ [M, O, G, Y]))) = s := ⟨_, rfl⟩
 obtain ⟨s3, hs3⟩ : ∃ s, bstr (trH 76 (dt ([s2, comL] ++ [R]))) = s := ⟨_, rfl⟩
 obtain ⟨s4, hs4⟩ : ∃ s, bstr (trH 65 (dt [s3, mesL, msg])) = s := ⟨_, rfl⟩
 have z1 : s1.size ≤ 1000000 := by rw [← hs1]; exact trs _ _
 have z2 : s2.size ≤ 1000000 := by rw [← hs2]; exact trs _ _
 have z3 : s3.size ≤ 1000000 := by rw [← hs3]; exact trs _ _
 have z4 : s4.size ≤ 1000000 := by rw [← hs4]; exact trs _ _
 have hst : s4.data.toList = snL M.data.toList O.data.toList G.data.toList Y.data.toList R.data.toList msg.data.toList := by
  rw [← hs4, bstr_data, ← hs3, ← hs2, ← hs1, ch_state]
 have H1 := Hq (r12_New sgL (by decide))
 rw [hs1] at H1
 have H2 := Hq (fun w1 => r12_Nats s1 keyL (some ⟨World.heap w1 |>.size, 0, none⟩) 4 4 [M, O, G, Y] z1 (by decide) (by omega) (four_mem (by omega) (by omega) hG hY) _ (sln_alloc w1 [M, O, G, Y] 22 (by simp)))
 rw [hs2] at H2
 have H3 := Hq (fun w1 => r12_Nats s2 comL (some ⟨World.heap w1 |>.size, 0, none⟩) 1 1 [R] z2 (by decide) (by omega) (by simpa using hR) _ (sln_alloc w1 [R] 22 (by simp)))
 rw [hs3] at H3
 have H4 := Hq (r12_Add s3 mesL msg z3 (by decide) hm)
 rw [hs4] at H4
 have H5 := Hq (r12_Challenge s4 O z4 vO h0 hO)
 rw [hst] at H5
 obtain ⟨r, hr⟩ : ∃ r, nS (chL (snL M.data.toList O.data.toList G.data.toList Y.data.toList R.data.toList msg.data.toList) O.size (num O)) = r := ⟨_, rfl⟩
 rw [hr] at H5 ⊢
 have HX0 := Hq (SB.new w M O G Y)
 obtain ⟨W0, hW0⟩ : ∃ W, w.alloc (.cells #[.string M, .string O, .string G, .string Y] 26) = W := ⟨_, rfl⟩
 rw [hW0] at HX0
 obtain ⟨c0, c1, c2, c3⟩ := HX0.out.1.cells
 unfold kV
 clear hs1 hs2 hs3 hs4 z1 z2 z3 z4 hst hr vO h0
 go_enter Tryz.func44, Tryz.ntmps44
 go_wp2_with fail
 try rw [hW0]
 clear hW0
 refine (H1.out _).mono ?_
 rintro ev w1 ⟨rfl, hb⟩
 have HX1 := Hq (HX0.out.next hb)
 clear hb c0 c1 c2 c3
 obtain ⟨c0, c1, c2, c3⟩ := HX1.out.1.cells
 have HX2 := Hq (HX1.out.next ((Below.refl w1.heap.size w1).alloc (Nat.le_refl _) (.cells #[.string M, .string O, .string G, .string Y] 22)))
 go_wp2_with fail
 refine (H2.out _).mono ?_
 rintro ev w2 ⟨rfl, hb⟩
 have HX3 := Hq (HX2.out.next hb)
 clear hb c0 c1 c2 c3
 have HX4 := Hq (HX3.out.next ((Below.refl w2.heap.size w2).alloc (Nat.le_refl _) (.cells #[.string R] 22)))
 go_wp2_with fail
 refine (H3.out _).mono ?_
 rintro ev w3 ⟨rfl, hb⟩
 have HX5 := Hq (HX4.out.next hb)
 clear hb
 go_wp2_with fail
 refine (H4.out _).mono ?_
 rintro ev w4 ⟨rfl, hb⟩
 have HX6 := Hq (HX5.out.next hb)
 clear hb
 obtain ⟨c0, c1, c2, c3⟩ := HX6.out.1.cells
 go_wp2_with fail
 refine (H5.out _).mono ?_
 rintro ev w5 ⟨rfl, hb⟩
 have HX7 := Hq (HX6.out.next hb)
 clear hb c0 c1 c2 c3
 go_wp2
 go_ret
 exact ⟨rfl, HX7.out.2⟩
end Go.Proofs.YtehflcnjnnhojaaGreat
namespace Go.Proofs.YtehflcnjnnhojaaGreat
set_option maxRecDepth 100000
set_option maxHeartbeats 2000000
open Go.RowKit Go.Lib
theorem r33_commitment (M O G Y c r : ByteArray) (hM : M.size ≤ 8) (hk : scK M O G Y = 0) (vc : nvalid c = true) (vr : nvalid r = true) (hcq : num c < num O) (w : World) : Calls Tryz.prog 45 #[kV M O G Y, .agg #[.string c, .string r]] w (Ret (.string (nS (cmS (num M) (num O) (num G) (num Y) (num c) (num r)))) w) := by
 obtain ⟨hv, hc, hz, hg, hy⟩ := scK_ok hk
 obtain ⟨v1, v2, v3, v4⟩ := all_four hv
 have h8 := chk_small hv hM hc
 have lO := num_small h8
 have lM := num_small hM
 have hm0 : 0 < num M := by
  obtain ⟨i, hu⟩ := has_un (chkK_parts hc).2.2 (genK_parts hg).1
  have := hu.1
  omega
 have HR1 := Hq (r33_raise M O G r hM v1 hm0 v3 vr)
 have vd : nvalid (nS (num O - num c)) = true := nvalid_nS.2 (lt128_of_lt8 (by omega))
 have HMN := Hq (r01_Minus (num O) (num c) (by rw [← nS_num v2]; omega) (by omega))
 rw [← nS_num v2, ← nS_num vc] at HMN
 have HR2 := Hq (r33_raise M O Y (nS (num O - num c)) hM v1 hm0 v4 vd)
 rw [num_nS] at HR2
 have HML := Hq (r03_Mul (num G ^ num r % num M) (num Y ^ (num O - num c) % num M) (num M) (lt128_of_lt8 (by have := Nat.mod_lt (num G ^ num r) hm0; omega)) (lt128_of_lt8 (by have := Nat.mod_lt (num Y ^ (num O - num c)) hm0; omega)) lM hm0)
 rw [← Nat.mul_mod, show num G ^ num r * num Y ^ (num O - num c) % num M = cmS (num M) (num O) (num G) (num Y) (num c) (num r) from rfl, ← nS_num v1] at HML
 obtain ⟨z1, hz1⟩ : ∃ z, nS (num G ^ num r % num M) = z := ⟨_, rfl⟩
 obtain ⟨z2, hz2⟩ : ∃ z, nS (num Y ^ (num O - num c) % num M) = z := ⟨_, rfl⟩
 obtain ⟨z3, hz3⟩ : ∃ z, nS (num O - num c) = z := ⟨_, rfl⟩
 obtain ⟨z4, hz4⟩ : ∃ z, nS (cmS (num M) (num O) (num G) (num Y) (num c) (num r)) = z := ⟨_, rfl⟩
 rw [hz1] at HR1
 rw [hz2, hz3] at HR2
 rw [hz3] at HMN
 rw [hz1, hz2, hz4] at HML
 rw [hz4]
 have HX0 := Hq (SG.new w M O G Y c r)
 obtain ⟨W0, hW0⟩ : ∃ W, (w.alloc (.cells #[.string M, .string O, .string G, .string Y] 26)).alloc (.cells #[.string c, .string r] 29) = W := ⟨_, rfl⟩
 rw [hW0] at HX0
 obtain ⟨c0, c1, c2, c3⟩ := HX0.out.1.1.cells
 have s0 := HX0.out.2.c0
 have s1 := HX0.out.2.c1
 unfold kV gV at *
 clear hz1 hz2 hz3 hz4 hM hk vc vr hcq hv hc hz hg hy v1 v2 v3 v4 h8 lO lM hm0 vd
 go_enter Tryz.func45, Tryz.ntmps45
 go_wp2_with fail
 try rw [hW0]
 clear hW0
 refine (HR1.out _).mono ?_
 rintro ev w1 ⟨rfl, hb⟩
 have HX1 := Hq (HX0.out.next hb)
 clear hb c0 c1 c2 c3 s0 s1
 go_wp2
 obtain ⟨wd, hwd⟩ : ∃ wd, w1.drew = wd := ⟨_, rfl⟩
 have HXd := Hq (show SG w wd M O G Y c r from by rw [← hwd]; exact HX1.out.next (Below.refl _ _).drew)
 obtain ⟨c0, c1, c2, c3⟩ := HXd.out.1.1.cells
 have s0 := HXd.out.2.c0
 refine wp_region_K 12 (Below (wd).heap.size (wd)) (by kernel_rfl) ?_
 intro hD
 rw [hwd]
 have KK1 := Hq (fun w' (hS' : (Below (wd).heap.size (wd)) w') => And.intro (kC hS' c0) (And.intro (kC hS' c1) (And.intro (kC hS' c2) (And.intro (kC hS' c3) (kC hS' s0)))))
 refine rP 0 16 11 rfl hD (Below.refl _ _) ?_; clear hD; intro hD; simp only [Act.put, sqA, sqB, sqC]
 refine rT 1 17 10 rfl hD (Below.refl _ _) (by intro w' hS'; obtain ⟨e0, e1, e2, e3, e4⟩ := KK1.out w' hS'; go_simp; with_reducible rfl) ?_; clear hD; intro hD; simp only [Act.put, sqA, sqB, sqC]
 refine rP 2 18 9 rfl hD (Below.refl _ _) ?_; clear hD; intro hD; simp only [Act.put, sqA, sqB, sqC]
 refine rT 3 19 8 rfl hD (Below.refl _ _) (by intro w' hS'; obtain ⟨e0, e1, e2, e3, e4⟩ := KK1.out w' hS'; go_simp; with_reducible rfl) ?_; clear hD; intro hD; simp only [Act.put, sqA, sqB, sqC]
 refine rP 4 20 7 rfl hD (Below.refl _ _) ?_; clear hD; intro hD; simp only [Act.put, sqA, sqB, sqC]
 refine rP 5 21 6 rfl hD (Below.refl _ _) ?_; clear hD; intro hD; simp only [Act.put, sqA, sqB, sqC]
 refine rT 6 22 5 rfl hD (Below.refl _ _) (by intro w' hS'; obtain ⟨e0, e1, e2, e3, e4⟩ := KK1.out w' hS'; go_simp; with_reducible rfl) ?_; clear hD; intro hD; simp only [Act.put, sqA, sqB, sqC]
 refine rP 7 23 4 rfl hD (Below.refl _ _) ?_; clear hD; intro hD; simp only [Act.put, sqA, sqB, sqC]
 refine rT 8 24 3 rfl hD (Below.refl _ _) (by intro w' hS'; obtain ⟨e0, e1, e2, e3, e4⟩ := KK1.out w' hS'; go_simp; with_reducible rfl) ?_; clear hD; intro hD; simp only [Act.put, sqA, sqB, sqC]
 refine rO 9 2 rfl hD ?_; clear hD; intro K9 hK9
 go_wp2_with fail
 refine (HMN.out _).mono ?_
 rintro ev w2 ⟨rfl, hb2⟩
 have HB9 := Hq hb2
 clear hb2
 go_wp2
 refine hK9 _ _ (by exact HB9.out) ?_; clear hK9; intro hS_2_9 hD
 refine rO 10 1 rfl hD ?_; clear hD; intro K10 hK10
 go_wp2_with fail
 refine (HR2.out _).mono ?_
 rintro ev w3 ⟨rfl, hb3⟩
 have HB10 := Hq hb3
 clear hb3
 go_wp2
 refine hK10 _ _ (by exact Below.trans hS_2_9 (Below.mono HB10.out (Below.size hS_2_9))) ?_; clear hK10; intro hS_2_10 hD
 refine rO 11 0 rfl hD ?_; clear hD; intro K11 hK11
 go_wp2
 refine hK11 _ _ (by exact hS_2_10) ?_; clear hK11; intro hS_2_11 hD
 have HL := Hq hS_2_11
 refine wpAnyK_done (by kernel_rfl) ?_ 0
 clear hD
 have HX3 := Hq (HXd.out.next HL.out)
 clear c0 c1 c2 c3 s0
 obtain ⟨c0, c1, c2, c3⟩ := HX3.out.1.1.cells
 go_wp2_with fail
 refine (HML.out _).mono ?_
 rintro ev w4 ⟨rfl, hb4⟩
 have HX4 := Hq (HX3.out.next hb4)
 clear hb4
 go_wp2
 go_ret
 exact ⟨rfl, HX4.out.1.2⟩
end Go.Proofs.YtehflcnjnnhojaaGreat

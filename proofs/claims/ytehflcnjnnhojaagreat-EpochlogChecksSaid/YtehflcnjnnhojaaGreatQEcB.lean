import Derived.Test.YtehflcnjnnhojaaGreatQEcA
import Derived.Test.YtehflcnjnnhojaaGreatQEpS
import Derived.Test.YtehflcnjnnhojaaGreatQScM
set_option linter.unusedVariables false
set_option linter.unusedSimpArgs false
namespace Go.Proofs.YtehflcnjnnhojaaGreat
set_option maxRecDepth 100000
set_option maxHeartbeats 4000000
open Go.RowKit
theorem walk_checks37 (M O G Y : ByteArray) (d : Dl) (A A' : Option Addr) (n c n' c' : Nat) (w : World) (hs : SlN w A n c d.ad) (hs' : SlN w A' n' c' d.rm) (hz : SzL d.str) : Calls Tryz.prog 3 #[kV M O G Y, .agg (d.arr (.slice A n c) (.slice A' n' c'))] w (Ret (.bool true) w) := by
 obtain ⟨W0, hW0⟩ : ∃ W0, (w.alloc (.cells #[.string M, .string O, .string G, .string Y] 26)).alloc (.cells (d.arr (.slice A n c) (.slice A' n' c')) 31) = W0 := ⟨_, rfl⟩
 have hx1 : BxC W0 (w.heap.size + 1) (d.arr (.slice A n c) (.slice A' n' c')) 31 := by
  rw [← hW0]
  have := BxC.new (w.alloc (.cells #[.string M, .string O, .string G, .string Y] 26)) (d.arr (.slice A n c) (.slice A' n' c')) 31
  rw [World.size_alloc] at this
  exact this
 have HK0 := Hq (show BxC W0 w.heap.size #[.string M, .string O, .string G, .string Y] 26 from by rw [← hW0]; exact (BxC.new w _ _).next ((Below.refl _ _).alloc (Nat.le_refl _) _))
 have HX0 := Hq hx1
 have HB0 := Hq (show Below w.heap.size w W0 from by rw [← hW0]; exact ((Below.refl _ _).alloc (Nat.le_refl _) _).alloc (by simp) _)
 have hb01 : Below W0.heap.size W0 (W0.alloc (.cells #[.int .i64 d.fr, .int .i64 d.to, .slice A n c, .slice A' n' c', .string d.be, .string d.af, .string d.sc, .string d.sr] 31)) := (Below.refl _ _).alloc (Nat.le_refl _) _
 have HS := Hq hs
 have HS' := Hq hs'
 have hbw := HB0.out.trans (hb01.mono HB0.out.size)
 have HFW := Hq (law37_Few [d] (some ⟨W0.heap.size, 0, none⟩) 1 1 (W0.alloc (.cells #[.int .i64 d.fr, .int .i64 d.to, .slice A n c, .slice A' n' c', .string d.be, .string d.af, .string d.sc, .string d.sr] 31)) (sld_one (BxC.new W0 _ _) (hs.kept hbw (Nat.le_refl _)) (hs'.kept hbw (Nat.le_refl _))) (fun e he => by simp at he; subst he; exact hz))
 have HZ := Hq hz
 have p0 : W0.cell? ⟨w.heap.size + 1, 0, none⟩ = some (.int .i64 d.fr) := BxC.cell HX0.out 0
 have p1 : W0.cell? ⟨w.heap.size + 1, 1, none⟩ = some (.int .i64 d.to) := BxC.cell HX0.out 1
 have p2 : W0.cell? ⟨w.heap.size + 1, 2, none⟩ = some (.slice A n c) := BxC.cell HX0.out 2
 have p3 : W0.cell? ⟨w.heap.size + 1, 3, none⟩ = some (.slice A' n' c') := BxC.cell HX0.out 3
 have p4 : W0.cell? ⟨w.heap.size + 1, 4, none⟩ = some (.string d.be) := BxC.cell HX0.out 4
 have p5 : W0.cell? ⟨w.heap.size + 1, 5, none⟩ = some (.string d.af) := BxC.cell HX0.out 5
 have p6 : W0.cell? ⟨w.heap.size + 1, 6, none⟩ = some (.string d.sc) := BxC.cell HX0.out 6
 have p7 : W0.cell? ⟨w.heap.size + 1, 7, none⟩ = some (.string d.sr) := BxC.cell HX0.out 7
 clear hs hs' hz hx1 hb01 hbw
 unfold Dl.arr at *
 unfold kV
 go_enter Tryz.func3, Tryz.ntmps3
 go_wp2_with fail
 try rw [hW0]
 clear hW0
 refine HFW.out.mono ?_
 rintro e w1 ⟨b, rfl, hf, hb⟩
 have hb1 : Below W0.heap.size W0 w1 := ((Below.refl _ _).alloc (Nat.le_refl _) _).trans (hb.mono (by simp))
 have HK1 := Hq (HK0.out.next hb1)
 have HX1 := Hq (HX0.out.next hb1)
 have HB1 := Hq (HB0.out.trans (hb1.mono HB0.out.size))
 have HF := Hq hf
 clear hb hb1 p0 p1 p2 p3 p4 p5 p6 p7 hf
 cases b with
 | false =>
  go_wp2_with fail
  refine (law_awake _).mono ?_
  rintro e wa ⟨rfl, hba⟩
  have HBA := Hq (HB1.out.trans (hba.mono HB1.out.size))
  clear hba
  go_wp2
  go_ret
  exact ⟨rfl, HBA.out⟩
 | true =>
  have hfd : FewD d := (HF.out (by trivial)).2 d (by simp)
  have hn : n ≤ 20 := by have := hfd.ad.1; rw [HS.out.1] at this; exact this
  have hn' : n' ≤ 20 := by have := hfd.rm.1; rw [HS'.out.1] at this; exact this
  have zc := hfd.xs.2 d.sc (by simp)
  have zr := hfd.xs.2 d.sr (by simp)
  have c0 : w1.cell? ⟨w.heap.size, 0, none⟩ = some (.string M) := HK1.out.cell 0
  have c1 : w1.cell? ⟨w.heap.size, 1, none⟩ = some (.string O) := HK1.out.cell 1
  have c2 : w1.cell? ⟨w.heap.size, 2, none⟩ = some (.string G) := HK1.out.cell 2
  have c3 : w1.cell? ⟨w.heap.size, 3, none⟩ = some (.string Y) := HK1.out.cell 3
  have HF3 := Hq (law33_Few M O G Y [] none 0 0 (by omega) w1 ⟨rfl, Nat.le_refl _, Nat.zero_le _, 0, 0, fun h => absurd h (Nat.lt_irrefl _), fun k s h => by simp at h⟩)
  obtain ⟨f, hfe⟩ : ∃ f, few33 M O G Y [] = f := ⟨_, rfl⟩
  rw [hfe] at HF3
  have HFE := Hq hfe
  unfold kV at HF3
  clear hfd hfe
  go_wp2_with fail
  refine HF3.out.mono ?_
  rintro e w2 ⟨rfl, hb2⟩
  have HK2 := Hq (HK1.out.next hb2)
  have HX2 := Hq (HX1.out.next hb2)
  have HB2 := Hq (HB1.out.trans (hb2.mono HB1.out.size))
  clear hb2 c0 c1 c2 c3 HF3
  cases f with
  | false =>
   go_wp2_with fail
   refine (law_awake _).mono ?_
   rintro e wa ⟨rfl, hba⟩
   have HBA := Hq (HB2.out.trans (hba.mono HB2.out.size))
   clear hba
   go_wp2
   go_ret
   exact ⟨rfl, HBA.out⟩
  | true =>
   obtain ⟨hM, hO, hG, hY, -⟩ := few33_of HFE.out
   have HC1 := Hq (fun W (hb : Below w.heap.size w W) => ep_Check M O G Y d A A' n c n' c' W (HS.out.kept hb (Nat.le_refl _)) (HS'.out.kept hb (Nat.le_refl _)) (by omega) (by omega) HZ.out hM (by omega) (by omega) (by omega) (by omega) (by omega))
   have HC2 := Hq (fun W (hb : Below w.heap.size w W) => r37_Check M O G Y d A A' n c n' c' W (HS.out.kept hb (Nat.le_refl _)) (HS'.out.kept hb (Nat.le_refl _)) (by omega) (by omega) HZ.out hM (by omega) (by omega) (by omega) (by omega) (by omega))
   obtain ⟨ck, hck⟩ : ∃ ck, ckD M O G Y d = ck := ⟨_, rfl⟩
   rw [hck] at HC1 HC2
   have hcc : (ck == ck) = true := beq_self_eq_true ck
   unfold kV Dl.arr at HC1 HC2
   clear hM hO hG hY zc zr hck hn hn'
   go_wp2
   obtain ⟨wd, hwd⟩ : ∃ wd, w2.drew = wd := ⟨_, rfl⟩
   have hdd : Below w2.heap.size w2 wd := by rw [← hwd]; exact (Below.refl _ _).drew
   have HKD := Hq (HK2.out.next hdd)
   have HXD := Hq (HX2.out.next hdd)
   have HBD := Hq (HB2.out.trans (hdd.mono HB2.out.size))
   clear hdd
   have c0 : wd.cell? ⟨w.heap.size, 0, none⟩ = some (.string M) := HKD.out.cell 0
   have c1 : wd.cell? ⟨w.heap.size, 1, none⟩ = some (.string O) := HKD.out.cell 1
   have c2 : wd.cell? ⟨w.heap.size, 2, none⟩ = some (.string G) := HKD.out.cell 2
   have c3 : wd.cell? ⟨w.heap.size, 3, none⟩ = some (.string Y) := HKD.out.cell 3
   have p0 : wd.cell? ⟨w.heap.size + 1, 0, none⟩ = some (.int .i64 d.fr) := BxC.cell HXD.out 0
   have p1 : wd.cell? ⟨w.heap.size + 1, 1, none⟩ = some (.int .i64 d.to) := BxC.cell HXD.out 1
   have p2 : wd.cell? ⟨w.heap.size + 1, 2, none⟩ = some (.slice A n c) := BxC.cell HXD.out 2
   have p3 : wd.cell? ⟨w.heap.size + 1, 3, none⟩ = some (.slice A' n' c') := BxC.cell HXD.out 3
   have p4 : wd.cell? ⟨w.heap.size + 1, 4, none⟩ = some (.string d.be) := BxC.cell HXD.out 4
   have p5 : wd.cell? ⟨w.heap.size + 1, 5, none⟩ = some (.string d.af) := BxC.cell HXD.out 5
   have p6 : wd.cell? ⟨w.heap.size + 1, 6, none⟩ = some (.string d.sc) := BxC.cell HXD.out 6
   have p7 : wd.cell? ⟨w.heap.size + 1, 7, none⟩ = some (.string d.sr) := BxC.cell HXD.out 7
   refine wp_region_K 11 (Below (wd).heap.size (wd)) (by kernel_rfl) ?_
   intro hD
   rw [hwd]
   have KK1 := Hq (fun w' (hS' : (Below (wd).heap.size (wd)) w') => And.intro (kC hS' c0) (And.intro (kC hS' c1) (And.intro (kC hS' c2) (And.intro (kC hS' c3) (And.intro (kC hS' p0) (And.intro (kC hS' p1) (And.intro (kC hS' p2) (And.intro (kC hS' p3) (And.intro (kC hS' p4) (And.intro (kC hS' p5) (And.intro (kC hS' p6) (kC hS' p7))))))))))))
   refine rT 0 15 10 rfl hD (Below.refl _ _) (by intro w' hS'; obtain ⟨e0, e1, e2, e3, e4, e5, e6, e7, e8, e9, e10, e11⟩ := KK1.out w' hS'; go_simp; with_reducible rfl) ?_; clear hD; intro hD; simp only [Act.put, sqA, sqB, sqC]
   refine rT 1 16 9 rfl hD (Below.refl _ _) (by intro w' hS'; obtain ⟨e0, e1, e2, e3, e4, e5, e6, e7, e8, e9, e10, e11⟩ := KK1.out w' hS'; go_simp; with_reducible rfl) ?_; clear hD; intro hD; simp only [Act.put, sqA, sqB, sqC]
   refine rT 3 18 8 rfl hD (Below.refl _ _) (by intro w' hS'; obtain ⟨e0, e1, e2, e3, e4, e5, e6, e7, e8, e9, e10, e11⟩ := KK1.out w' hS'; go_simp; with_reducible rfl) ?_; clear hD; intro hD; simp only [Act.put, sqA, sqB, sqC]
   refine rT 4 19 7 rfl hD (Below.refl _ _) (by intro w' hS'; obtain ⟨e0, e1, e2, e3, e4, e5, e6, e7, e8, e9, e10, e11⟩ := KK1.out w' hS'; go_simp; with_reducible rfl) ?_; clear hD; intro hD; simp only [Act.put, sqA, sqB, sqC]
   refine rO 2 6 rfl hD ?_; clear hD; intro K2 hK2
   go_wp2_with fail
   refine (HC1.out _ (HBD.out.trans (Below.mono (Below.refl _ _) HBD.out.size))).mono ?_
   rintro ev w10 ⟨rfl, hb⟩
   have HB2 := Hq hb
   clear hb
   go_wp2
   refine hK2 _ _ (by exact HB2.out) ?_; clear hK2; intro hS_3_2 hD
   refine rO 5 5 rfl hD ?_; clear hD; intro K5 hK5
   go_wp2_with fail
   refine (HC2.out _ (HBD.out.trans (Below.mono hS_3_2 HBD.out.size))).mono ?_
   rintro ev w11 ⟨rfl, hb⟩
   have HB5 := Hq hb
   clear hb
   go_wp2
   refine hK5 _ _ (by exact Below.trans hS_3_2 (Below.mono HB5.out (Below.size hS_3_2))) ?_; clear hK5; intro hS_3_5 hD
   refine rP 6 21 4 rfl hD hS_3_5 ?_; clear hD; intro hD; simp only [Act.put, sqA, sqB, sqC]
   refine rP 7 22 3 rfl hD hS_3_5 ?_; clear hD; intro hD; simp only [Act.put, sqA, sqB, sqC]
   refine rO 8 2 rfl hD ?_; clear hD; intro K8 hK8
   go_wp2_with fail
   refine (law_awake _).mono ?_
   rintro ev w12 ⟨rfl, hb⟩
   have HB8 := Hq hb
   clear hb
   go_wp2
   refine hK8 _ _ (by exact Below.trans hS_3_5 (Below.mono HB8.out (Below.size hS_3_5))) ?_; clear hK8; intro hS_3_8 hD
   refine rP 9 24 1 rfl hD hS_3_8 ?_; clear hD; intro hD; simp only [Act.put, sqA, sqB, sqC]
   refine rO 10 0 rfl hD ?_; clear hD; intro K10 hK10
   go_wp2
   refine hK10 _ _ (by exact hS_3_8) ?_; clear hK10; intro hS_3_10 hD
   have HL := Hq hS_3_10
   refine wpAnyK_done (by kernel_rfl) ?_ 0
   clear hD
   go_wp2
   go_ret
   exact ⟨rfl, HBD.out.trans (HL.out.mono HBD.out.size)⟩
end Go.Proofs.YtehflcnjnnhojaaGreat

import Derived.Test.YtehflcnjnnhojaaGreatQEpQ
import Derived.Test.YtehflcnjnnhojaaGreatRows
import Derived.ProofKit
import Derived.OpenShut
import Derived.ShutString
import Derived.ChangeOld
import Derived.Below
import Derived.Deep.Slices
import Derived.Deep.Fields
import Derived.ChangeSame
import Derived.Lib.SmallJoins
import Derived.Test.YtehflcnjnnhojaaGreatQGh2
import Derived.Test.YtehflcnjnnhojaaGreatQEpH
import Derived.Test.YtehflcnjnnhojaaGreatQScT
set_option linter.unusedVariables false
set_option linter.unusedSimpArgs false
namespace Go.Proofs.YtehflcnjnnhojaaGreat
set_option maxRecDepth 100000
open Go.ChangeShapes Go.WideShapes Go.Deep Go.Joins Go.RowKit
open Go.ChangeMaps (open_string shut_string)
theorem list_of {α : Type} {Q : Nat → α → Prop} : ∀ (n : Nat), (∀ i, i < n → ∃ e, Q i e) → ∃ l : List α, l.length = n ∧ ∀ k e, l[k]? = some e → Q k e
 | 0, _ => ⟨[], rfl, fun k e h => by simp at h⟩
 | n + 1, h => by
  obtain ⟨l, hl, hq⟩ := list_of n (fun i hi => h i (by omega))
  obtain ⟨e, he⟩ := h n (by omega)
  refine ⟨l ++ [e], by simp [hl], fun k e' hk => ?_⟩
  by_cases hkn : k < l.length
  · rw [List.getElem?_append_left hkn] at hk; exact hq k e' hk
  · rw [List.getElem?_append_right (by omega)] at hk
    have h0 : k - l.length = 0 := by
     rcases Nat.eq_zero_or_pos (k - l.length) with h0 | h0
     · exact h0
     · rw [List.getElem?_eq_none (by simp; omega)] at hk; cases hk
    rw [h0] at hk
    simp only [List.getElem?_cons_zero, Option.some.injEq] at hk
    subst hk
    rw [show k = n from by omega]
    exact he
section
variable {H : Type} {enc : TypeId × Value → H} {W : World} {sp : Nat → Bool} {held : Bool}
theorem trod_at {P : Program} {w : World} {base : Nat} {spare : Nat → Bool} {fuel : Nat} {t : TypeId} {cs : List Value} {x : DataW H × List MemPlace} {fs : Array Field} (ht : P.underlying t = some (.struct fs)) (h : DataW.trod enc P w base spare held fuel t cs = some x) (i : Nat) (f : Field) (hf : fs[i]? = some f) (k : Nat) (hk : P.cellsOf f.type = k) :
 ∃ n y, DataW.trod enc P w base spare held n f.type ((cs.drop f.offset).take k) = some y := by
 obtain ⟨xs, n, _, _, _, hl, hx⟩ := DataW.trod_struct ht h
 have h1 := hx i f hf
 have hi : i < xs.length := by rw [hl]; exact (Array.getElem?_eq_some_iff.1 hf).1
 rw [hk, List.getElem?_eq_getElem hi] at h1
 exact ⟨n, _, h1⟩
theorem trod_len {P : Program} {w : World} {base : Nat} {spare : Nat → Bool} {fuel : Nat} {t : TypeId} {cs : List Value} {x : DataW H × List MemPlace} {fs : Array Field} (ht : P.underlying t = some (.struct fs)) (h : DataW.trod enc P w base spare held fuel t cs = some x) : cs.length = P.cellsOf t := by
 obtain ⟨_, _, _, _, h1, _, _⟩ := DataW.trod_struct ht h
 exact h1
theorem open_nats {fuel : Nat} {cs : List Value} {x : DataW H × List MemPlace} (h : DataW.trod enc Tryz.prog W 0 (fun _ => true) held fuel 27 cs = some x) : ∃ A n c l, cs = [.slice A n c] ∧ SlN W A n c l ∧ SzL l := by
 rcases open_slice Tryz.underlying27 h with ⟨rfl, _⟩ | ⟨ad, len, cap, m, n, D, Pl, rfl, hb, hl, hm, hmm, hx, hi⟩
 · exact ⟨none, 0, 0, [], rfl, ⟨rfl, Nat.le_refl _, Nat.zero_le _, 0, 0, fun h => absurd h (Nat.lt_irrefl _), fun k s h => by simp at h⟩, fun s h => by cases h⟩
 · have hC : Tryz.prog.cellsOf 22 = 1 := by kernel_rfl
   have hq : ∀ i, i < len → ∃ s : ByteArray, W.cell? (ad.add i) = some (.string s) ∧ s.size ≤ maxLen := fun i hi' => by
    obtain ⟨cs', hc, ht'⟩ := hi i (by rw [hmm]; simp; omega)
    obtain ⟨s, e, _, z⟩ := DataW.trod_string Tryz.underlying22 ht'
    rw [hC, Nat.mul_one] at hc
    obtain ⟨_, hcl, hat⟩ := World.cells?_some hc
    have := hat 0 (by omega)
    rw [e] at this
    exact ⟨s, by simpa [Addr.add] using this, z⟩
   obtain ⟨l, hll, hq⟩ := list_of len hq
   refine ⟨some ad, len, cap, l, rfl, ⟨hll, hl, by unfold maxLen at hm; exact hm, ?_⟩, fun s hs => ?_⟩
   · rcases Nat.eq_zero_or_pos len with h0 | h0
     · exact ⟨0, 0, fun h => by omega, fun k e hk => by have := (List.getElem?_eq_some_iff.1 hk).1; omega⟩
     · obtain ⟨b, off, spot⟩ := ad
       obtain ⟨e, he⟩ : ∃ e, l[0]? = some e := ⟨_, List.getElem?_eq_getElem (by omega)⟩
       have h1 := (hq 0 e he).1
       have hspot : spot = none := by simpa [Addr.add] using World.cell?_spot h1
       subst hspot
       refine ⟨b, off, fun _ => rfl, fun k e hk => ?_⟩
       have := (hq k e hk).1
       rw [addr_add] at this
       exact this
   · obtain ⟨k, hk⟩ := List.getElem?_of_mem hs
     have := (hq k s hk).2
     unfold maxLen at this
     exact this
theorem eight {cs : List Value} (h : cs.length = 8) : ∃ c0 c1 c2 c3 c4 c5 c6 c7, cs = [c0, c1, c2, c3, c4, c5, c6, c7] :=
 match cs, h with
 | [c0, c1, c2, c3, c4, c5, c6, c7], _ => ⟨c0, c1, c2, c3, c4, c5, c6, c7, rfl⟩
theorem open_dl {fuel : Nat} {cs : List Value} {x : DataW H × List MemPlace} (h : DataW.trod enc Tryz.prog W 0 (fun _ => true) held fuel 31 cs = some x) : ∃ (d : Dl) (A1 : Option Addr) (n1 c1 : Nat) (A2 : Option Addr) (n2 c2 : Nat), cs = d.vals (.slice A1 n1 c1) (.slice A2 n2 c2) ∧ SlN W A1 n1 c1 d.ad ∧ SlN W A2 n2 c2 d.rm ∧ SzL d.str := by
 have hl := trod_len Tryz.underlying31 h
 rw [show Tryz.prog.cellsOf 31 = 8 from by kernel_rfl] at hl
 obtain ⟨c0, c1, c2, c3, c4, c5, c6, c7, rfl⟩ := eight hl
 clear hl
 obtain ⟨na, ya, ga⟩ := trod_at Tryz.underlying31 h 0 _ rfl 1 (by kernel_rfl)
 have ga : DataW.trod enc Tryz.prog W 0 (fun _ => true) held na 3 [c0] = some ya := ga
 obtain ⟨nb, yb, gb⟩ := trod_at Tryz.underlying31 h 1 _ rfl 1 (by kernel_rfl)
 have gb : DataW.trod enc Tryz.prog W 0 (fun _ => true) held nb 3 [c1] = some yb := gb
 obtain ⟨nc, yc, gc⟩ := trod_at Tryz.underlying31 h 2 _ rfl 1 (by kernel_rfl)
 have gc : DataW.trod enc Tryz.prog W 0 (fun _ => true) held nc 27 [c2] = some yc := gc
 obtain ⟨nd, yd, gd⟩ := trod_at Tryz.underlying31 h 3 _ rfl 1 (by kernel_rfl)
 have gd : DataW.trod enc Tryz.prog W 0 (fun _ => true) held nd 27 [c3] = some yd := gd
 obtain ⟨ne, ye, ge⟩ := trod_at Tryz.underlying31 h 4 _ rfl 1 (by kernel_rfl)
 have ge : DataW.trod enc Tryz.prog W 0 (fun _ => true) held ne 22 [c4] = some ye := ge
 obtain ⟨nf, yf, gf⟩ := trod_at Tryz.underlying31 h 5 _ rfl 1 (by kernel_rfl)
 have gf : DataW.trod enc Tryz.prog W 0 (fun _ => true) held nf 22 [c5] = some yf := gf
 obtain ⟨ng, yg, gg⟩ := trod_at Tryz.underlying31 h 6 _ rfl 2 (by kernel_rfl)
 have gg : DataW.trod enc Tryz.prog W 0 (fun _ => true) held ng 29 [c6, c7] = some yg := gg
 obtain ⟨np, yp, gp⟩ := trod_at Tryz.underlying29 gg 0 _ rfl 1 (by kernel_rfl)
 have gp : DataW.trod enc Tryz.prog W 0 (fun _ => true) held np 22 [c6] = some yp := gp
 obtain ⟨nq, yq, gq⟩ := trod_at Tryz.underlying29 gg 1 _ rfl 1 (by kernel_rfl)
 have gq : DataW.trod enc Tryz.prog W 0 (fun _ => true) held nq 22 [c7] = some yq := gq
 obtain ⟨v4, e4, _, z4⟩ := DataW.trod_string Tryz.underlying22 ge
 cases e4
 obtain ⟨v5, e5, _, z5⟩ := DataW.trod_string Tryz.underlying22 gf
 cases e5
 obtain ⟨v6, e6, _, z6⟩ := DataW.trod_string Tryz.underlying22 gp
 cases e6
 obtain ⟨v7, e7, _, z7⟩ := DataW.trod_string Tryz.underlying22 gq
 cases e7
 obtain ⟨v0, e0, _, w0⟩ := DataW.trod_int Tryz.underlying3 ga
 cases e0
 obtain ⟨v1, e1, _, w1⟩ := DataW.trod_int Tryz.underlying3 gb
 cases e1
 obtain ⟨A1, n1, c1, l1, e2, hs1, hz1⟩ := open_nats gc
 cases e2
 obtain ⟨A2, n2, c2, l2, e3, hs2, hz2⟩ := open_nats gd
 cases e3
 refine ⟨⟨v0, v1, l1, l2, v4, v5, v6, v7⟩, A1, n1, c1, A2, n2, c2, rfl, hs1, hs2, fun s hm => ?_⟩
 unfold maxLen at *
 simp only [Dl.str, List.mem_append, List.mem_cons, List.mem_nil_iff, or_false] at hm
 rcases hm with (hm | hm) | rfl | rfl | rfl | rfl
 all_goals first | assumption | exact hz1 s hm | exact hz2 s hm
theorem open_dlV {r : Reach} {b0 : Nat} {v : Value} {d : DataW H} {p : List MemPlace} (hv : Value.okWide Tryz.prog W r b0 31 v) (h : DataW.Trod enc Tryz.prog W 0 (fun _ => true) held 31 v d p) : ∃ (x : Dl) (A1 : Option Addr) (n1 c1 : Nat) (A2 : Option Addr) (n2 c2 : Nat), v = .agg (x.arr (.slice A1 n1 c1) (.slice A2 n2 c2)) ∧ SlN W A1 n1 c1 x.ad ∧ SlN W A2 n2 c2 x.rm ∧ SzL x.str := by
 obtain ⟨cs, rfl, _⟩ := okWide_struct Tryz.underlying31 hv
 obtain ⟨fuel, hf⟩ := h
 obtain ⟨x, A1, n1, c1, A2, n2, c2, he, hs1, hs2, hz⟩ := open_dl hf
 refine ⟨x, A1, n1, c1, A2, n2, c2, ?_, hs1, hs2, hz⟩
 have : cs.toList = x.vals (.slice A1 n1 c1) (.slice A2 n2 c2) := he
 rw [show cs = cs.toList.toArray from by simp, this]
 rfl
end
end Go.Proofs.YtehflcnjnnhojaaGreat
namespace Go.Proofs.YtehflcnjnnhojaaGreat
set_option maxRecDepth 100000
set_option maxHeartbeats 4000000
open Go.RowKit
def ckD (M O G Y : ByteArray) (d : Dl) : Int := if d.msg.2 = 0 then veK M O G Y d.sc d.sr d.msg.1 else d.msg.2
theorem encS_sizeE (x : It) : (encS x).1.size ≤ 1000000 := by
 unfold encS
 split
 · decide
 split
 · decide
 split
 · decide
 · rw [bstr_size]; omega
theorem Dl.msg_size (d : Dl) : d.msg.1.size ≤ 1000000 := by
 unfold Dl.msg
 split
 · exact encS_sizeE _
 · exact Nat.zero_le _
theorem ep_Check (M O G Y : ByteArray) (d : Dl) (A A' : Option Addr) (n c n' c' : Nat) (w : World) (hs : SlN w A n c d.ad) (hs' : SlN w A' n' c' d.rm) (hn : n ≤ 400000) (hn' : n' ≤ 400000) (hz : SzL d.str) (hM : M.size ≤ 8) (hO : O.size ≤ 100) (hG : G.size ≤ 1000) (hY : Y.size ≤ 1000) (hc : d.sc.size ≤ 1000) (hr : d.sr.size ≤ 1000) :
 Calls Tryz.prog 7 #[kV M O G Y, .agg (d.arr (.slice A n c) (.slice A' n' c'))] w (Ret (.int .i64 (ckD M O G Y d)) w) := by
 obtain ⟨W0, hW0⟩ : ∃ W0, (w.alloc (.cells #[.string M, .string O, .string G, .string Y] 26)).alloc (.cells (d.arr (.slice A n c) (.slice A' n' c')) 31) = W0 := ⟨_, rfl⟩
 have hx1 : BxC W0 (w.heap.size + 1) (d.arr (.slice A n c) (.slice A' n' c')) 31 := by
  rw [← hW0]
  have := BxC.new (w.alloc (.cells #[.string M, .string O, .string G, .string Y] 26)) (d.arr (.slice A n c) (.slice A' n' c')) 31
  rw [World.size_alloc] at this
  exact this
 have HK0 := Hq (show BxC W0 w.heap.size #[.string M, .string O, .string G, .string Y] 26 from by rw [← hW0]; exact (BxC.new w _ _).next ((Below.refl _ _).alloc (Nat.le_refl _) _))
 have HX0 := Hq hx1
 have HB0 := Hq (show Below w.heap.size w W0 from by rw [← hW0]; exact ((Below.refl _ _).alloc (Nat.le_refl _) _).alloc (by simp) _)
 have HM := Hq (ep_Message d A A' n c n' c' W0 (hs.kept HB0.out (Nat.le_refl _)) (hs'.kept HB0.out (Nat.le_refl _)) hn hn' hz)
 have HV := Hq (fun W => sc_Verify M O G Y d.sc d.sr d.msg.1 hM hO hG hY hc hr d.msg_size W)
 obtain ⟨r1, r2, hr1⟩ : ∃ r1 r2, d.msg = (r1, r2) := ⟨_, _, rfl⟩
 have HCK := Hq (show ckD M O G Y d = if r2 = 0 then veK M O G Y d.sc d.sr r1 else r2 from by unfold ckD; rw [hr1])
 rw [hr1] at HM HV
 have p0 : W0.cell? ⟨w.heap.size + 1, 0, none⟩ = some (.int .i64 d.fr) := hx1.cell 0
 have p1 : W0.cell? ⟨w.heap.size + 1, 1, none⟩ = some (.int .i64 d.to) := hx1.cell 1
 have p2 : W0.cell? ⟨w.heap.size + 1, 2, none⟩ = some (.slice A n c) := hx1.cell 2
 have p3 : W0.cell? ⟨w.heap.size + 1, 3, none⟩ = some (.slice A' n' c') := hx1.cell 3
 have p4 : W0.cell? ⟨w.heap.size + 1, 4, none⟩ = some (.string d.be) := hx1.cell 4
 have p5 : W0.cell? ⟨w.heap.size + 1, 5, none⟩ = some (.string d.af) := hx1.cell 5
 have p6 : W0.cell? ⟨w.heap.size + 1, 6, none⟩ = some (.string d.sc) := hx1.cell 6
 have p7 : W0.cell? ⟨w.heap.size + 1, 7, none⟩ = some (.string d.sr) := hx1.cell 7
 unfold Dl.arr at *
 unfold kV at HV ⊢
 clear hs hs' hr1 hx1
 go_enter Tryz.func7, Tryz.ntmps7
 go_upto_region 1 with fail
 try rw [hW0]
 clear hW0
 go_wp2_with fail
 refine (show Calls _ _ _ _ _ from HM.out).mono ?_
 rintro e w1 ⟨rfl, hb1⟩
 have HK1 := Hq (HK0.out.next hb1)
 have HX1 := Hq (HX0.out.next hb1)
 have HB1 := Hq (HB0.out.trans (hb1.mono HB0.out.size))
 clear hb1 p0 p1 p2 p3 p4 p5 p6 p7
 by_cases hz2 : r2 = 0
 · subst hz2
   have HCK := Hq (show ckD M O G Y d = veK M O G Y d.sc d.sr r1 from by rw [HCK.out, if_pos rfl])
   have k0 : w1.cell? ⟨w.heap.size, 0, none⟩ = some (.string M) := HK1.out.cell 0
   have k1 : w1.cell? ⟨w.heap.size, 1, none⟩ = some (.string O) := HK1.out.cell 1
   have k2 : w1.cell? ⟨w.heap.size, 2, none⟩ = some (.string G) := HK1.out.cell 2
   have k3 : w1.cell? ⟨w.heap.size, 3, none⟩ = some (.string Y) := HK1.out.cell 3
   have x6 : w1.cell? ⟨w.heap.size + 1, 6, none⟩ = some (.string d.sc) := HX1.out.cell 6
   have x7 : w1.cell? ⟨w.heap.size + 1, 7, none⟩ = some (.string d.sr) := HX1.out.cell 7
   go_wp2_with fail
   refine (HV.out w1).mono ?_
   rintro e w2 ⟨rfl, hb2⟩
   have HB2 := Hq (HB1.out.trans (hb2.mono HB1.out.size))
   clear hb2
   go_wp2
   go_ret
   exact ⟨by rw [HCK.out]; rfl, HB2.out⟩
 · have hne : (r2 != 0) = true := by simp [hz2]
   have HCK := Hq (show ckD M O G Y d = r2 from by rw [HCK.out, if_neg hz2])
   go_wp2
   go_ret
   exact ⟨by rw [HCK.out]; rfl, HB1.out⟩
theorem r37_Check (M O G Y : ByteArray) (d : Dl) (A A' : Option Addr) (n c n' c' : Nat) (w : World) (hs : SlN w A n c d.ad) (hs' : SlN w A' n' c' d.rm) (hn : n ≤ 400000) (hn' : n' ≤ 400000) (hz : SzL d.str) (hM : M.size ≤ 8) (hO : O.size ≤ 100) (hG : G.size ≤ 1000) (hY : Y.size ≤ 1000) (hc : d.sc.size ≤ 1000) (hr : d.sr.size ≤ 1000) :
 Calls Tryz.prog 8 #[kV M O G Y, .agg (d.arr (.slice A n c) (.slice A' n' c'))] w (Ret (.int .i64 (ckD M O G Y d)) w) := by
 obtain ⟨W0, hW0⟩ : ∃ W0, (w.alloc (.cells #[.string M, .string O, .string G, .string Y] 26)).alloc (.cells (d.arr (.slice A n c) (.slice A' n' c')) 31) = W0 := ⟨_, rfl⟩
 have hx1 : BxC W0 (w.heap.size + 1) (d.arr (.slice A n c) (.slice A' n' c')) 31 := by
  rw [← hW0]
  have := BxC.new (w.alloc (.cells #[.string M, .string O, .string G, .string Y] 26)) (d.arr (.slice A n c) (.slice A' n' c')) 31
  rw [World.size_alloc] at this
  exact this
 have HK0 := Hq (show BxC W0 w.heap.size #[.string M, .string O, .string G, .string Y] 26 from by rw [← hW0]; exact (BxC.new w _ _).next ((Below.refl _ _).alloc (Nat.le_refl _) _))
 have HX0 := Hq hx1
 have HB0 := Hq (show Below w.heap.size w W0 from by rw [← hW0]; exact ((Below.refl _ _).alloc (Nat.le_refl _) _).alloc (by simp) _)
 have HM := Hq (r37_Message d A A' n c n' c' W0 (hs.kept HB0.out (Nat.le_refl _)) (hs'.kept HB0.out (Nat.le_refl _)) hn hn' hz)
 have HV := Hq (fun W => r33_Verify M O G Y d.sc d.sr d.msg.1 hM hO hG hY hc hr d.msg_size W)
 obtain ⟨r1, r2, hr1⟩ : ∃ r1 r2, d.msg = (r1, r2) := ⟨_, _, rfl⟩
 have HCK := Hq (show ckD M O G Y d = if r2 = 0 then veK M O G Y d.sc d.sr r1 else r2 from by unfold ckD; rw [hr1])
 rw [hr1] at HM HV
 have p0 : W0.cell? ⟨w.heap.size + 1, 0, none⟩ = some (.int .i64 d.fr) := hx1.cell 0
 have p1 : W0.cell? ⟨w.heap.size + 1, 1, none⟩ = some (.int .i64 d.to) := hx1.cell 1
 have p2 : W0.cell? ⟨w.heap.size + 1, 2, none⟩ = some (.slice A n c) := hx1.cell 2
 have p3 : W0.cell? ⟨w.heap.size + 1, 3, none⟩ = some (.slice A' n' c') := hx1.cell 3
 have p4 : W0.cell? ⟨w.heap.size + 1, 4, none⟩ = some (.string d.be) := hx1.cell 4
 have p5 : W0.cell? ⟨w.heap.size + 1, 5, none⟩ = some (.string d.af) := hx1.cell 5
 have p6 : W0.cell? ⟨w.heap.size + 1, 6, none⟩ = some (.string d.sc) := hx1.cell 6
 have p7 : W0.cell? ⟨w.heap.size + 1, 7, none⟩ = some (.string d.sr) := hx1.cell 7
 unfold Dl.arr at *
 unfold kV at HV ⊢
 clear hs hs' hr1 hx1
 go_enter Tryz.func8, Tryz.ntmps8
 go_upto_region 1 with fail
 try rw [hW0]
 clear hW0
 go_wp2_with fail
 refine (show Calls _ _ _ _ _ from HM.out).mono ?_
 rintro e w1 ⟨rfl, hb1⟩
 have HK1 := Hq (HK0.out.next hb1)
 have HX1 := Hq (HX0.out.next hb1)
 have HB1 := Hq (HB0.out.trans (hb1.mono HB0.out.size))
 clear hb1 p0 p1 p2 p3 p4 p5 p6 p7
 by_cases hz2 : r2 = 0
 · subst hz2
   have HCK := Hq (show ckD M O G Y d = veK M O G Y d.sc d.sr r1 from by rw [HCK.out, if_pos rfl])
   have k0 : w1.cell? ⟨w.heap.size, 0, none⟩ = some (.string M) := HK1.out.cell 0
   have k1 : w1.cell? ⟨w.heap.size, 1, none⟩ = some (.string O) := HK1.out.cell 1
   have k2 : w1.cell? ⟨w.heap.size, 2, none⟩ = some (.string G) := HK1.out.cell 2
   have k3 : w1.cell? ⟨w.heap.size, 3, none⟩ = some (.string Y) := HK1.out.cell 3
   have x6 : w1.cell? ⟨w.heap.size + 1, 6, none⟩ = some (.string d.sc) := HX1.out.cell 6
   have x7 : w1.cell? ⟨w.heap.size + 1, 7, none⟩ = some (.string d.sr) := HX1.out.cell 7
   go_wp2_with fail
   refine (HV.out w1).mono ?_
   rintro e w2 ⟨rfl, hb2⟩
   have HB2 := Hq (HB1.out.trans (hb2.mono HB1.out.size))
   clear hb2
   go_wp2
   go_ret
   exact ⟨by rw [HCK.out]; rfl, HB2.out⟩
 · have hne : (r2 != 0) = true := by simp [hz2]
   have HCK := Hq (show ckD M O G Y d = r2 from by rw [HCK.out, if_neg hz2])
   go_wp2
   go_ret
   exact ⟨by rw [HCK.out]; rfl, HB1.out⟩
end Go.Proofs.YtehflcnjnnhojaaGreat

import Derived.Test.YtehflcnjnnhojaaGreatQEpN
import Derived.Test.YtehflcnjnnhojaaGreatQEpQ
set_option linter.unusedVariables false
set_option linter.unusedSimpArgs false
namespace Go.Proofs.YtehflcnjnnhojaaGreat
set_option maxRecDepth 100000
set_option maxHeartbeats 8000000
open Go.RowKit
def exA : Dl := ⟨0, 1, [⟨#[3]⟩, ⟨#[5]⟩], [], ⟨#[4]⟩, ⟨#[16]⟩, ⟨#[]⟩, ⟨#[]⟩⟩
def exB : Dl := ⟨1, 2, [⟨#[7]⟩], [⟨#[5]⟩], ⟨#[16]⟩, ⟨#[23]⟩, ⟨#[]⟩, ⟨#[]⟩⟩
def exB2 : Dl := ⟨1, 2, [⟨#[3]⟩], [⟨#[5]⟩], ⟨#[16]⟩, ⟨#[23]⟩, ⟨#[]⟩, ⟨#[]⟩⟩
def exB3 : Dl := ⟨2, 3, [⟨#[3]⟩], [⟨#[5]⟩], ⟨#[16]⟩, ⟨#[23]⟩, ⟨#[]⟩, ⟨#[]⟩⟩
def exC : Dl := ⟨0, 2, [⟨#[3]⟩, ⟨#[7]⟩], [], ⟨#[4]⟩, ⟨#[23]⟩, ⟨#[]⟩, ⟨#[]⟩⟩
theorem ne35 : (⟨#[3]⟩ : ByteArray) ≠ ⟨#[5]⟩ := by decide
theorem ne37 : (⟨#[3]⟩ : ByteArray) ≠ ⟨#[7]⟩ := by decide
theorem ne57 : (⟨#[5]⟩ : ByteArray) ≠ ⟨#[7]⟩ := by decide
theorem formA : exA.form = 0 := Dl.form_0 (by decide) (by decide) (Dl.twice_no (by decide) (by decide) (by rfl)) (by decide)
theorem formB : exB.form = 0 := Dl.form_0 (by decide) (by decide) (Dl.twice_no (by decide) (by decide) (by
 rw [List.any_eq_false]; intro x hx; rw [memB_iff]; simp [exB] at hx ⊢; subst hx; exact ne57.symm)) (by decide)
theorem formB2 : exB2.form = 0 := Dl.form_0 (by decide) (by decide) (Dl.twice_no (by decide) (by decide) (by
 rw [List.any_eq_false]; intro x hx; rw [memB_iff]; simp [exB2] at hx ⊢; subst hx; exact ne35)) (by decide)
theorem formB3 : exB3.form = 0 := Dl.form_0 (by decide) (by decide) (Dl.twice_no (by decide) (by decide) (by
 rw [List.any_eq_false]; intro x hx; rw [memB_iff]; simp [exB3] at hx ⊢; subst hx; exact ne35)) (by decide)
theorem msgA : exA.msg.2 = 0 := by unfold Dl.msg; rw [if_pos formA]; kernel_rfl
theorem msgB : exB.msg.2 = 0 := by unfold Dl.msg; rw [if_pos formB]; kernel_rfl
theorem msgB2 : exB2.msg.2 = 0 := by unfold Dl.msg; rw [if_pos formB2]; kernel_rfl
theorem msgB3 : exB3.msg.2 = 0 := by unfold Dl.msg; rw [if_pos formB3]; kernel_rfl
theorem clashAB : clash exA exB = false := by
 cases h : clash exA exB with
 | false => rfl
 | true =>
  unfold clash at h
  rw [Bool.or_eq_true, List.any_eq_true, List.any_eq_true] at h
  rcases h with ⟨x, hx, h⟩ | ⟨x, hx, h⟩
  · rw [memB_iff] at h
    simp [exA, exB] at hx h
    subst h
    rcases hx with h | h
    · exact absurd h.symm ne37
    · exact absurd h.symm ne57
  · simp [exA] at hx
theorem clashAB2 : clash exA exB2 = true := by
 unfold clash
 rw [Bool.or_eq_true, List.any_eq_true]
 exact .inl ⟨⟨#[3]⟩, by simp [exA], by rw [memB_iff]; simp [exB2]⟩
theorem n357 : num ⟨#[3]⟩ = 3 ∧ num ⟨#[5]⟩ = 5 ∧ num ⟨#[7]⟩ = 7 := by decide
theorem jnAB : jn exA exB = (exC, 0) := by
 unfold jn
 rw [if_neg (by rw [msgA]; simp), if_neg (by rw [msgB]; simp), if_neg (by decide), if_neg (by decide), if_neg (by rw [clashAB]; simp)]
 have e1 : mrg (memB exB.rm) (memB exA.rm) exA.ad exB.ad = [⟨#[3]⟩, ⟨#[7]⟩] := by
  have h5 : memB exB.rm ⟨#[5]⟩ = true := memB_iff.2 (by simp [exB])
  have h3 : memB exB.rm ⟨#[3]⟩ = false := memB_no.2 (by simp [exB])
  have h7 : memB exA.rm ⟨#[7]⟩ = false := memB_no.2 (by simp [exA])
  obtain ⟨p3, p5, p7⟩ := n357
  show mrg (memB exB.rm) (memB exA.rm) [⟨#[3]⟩, ⟨#[5]⟩] [⟨#[7]⟩] = _
  rw [mrg, if_pos (by rw [p3, p7]; omega), if_neg (by rw [h3]; simp), mrg, if_pos (by rw [p5, p7]; omega), if_pos h5, mrg, if_neg (by rw [h7]; simp), mrg]
 have e2 : mrg (memB exB.ad) (memB exA.ad) exA.rm exB.rm = [] := by
  have h5 : memB exA.ad ⟨#[5]⟩ = true := memB_iff.2 (by simp [exA])
  show mrg (memB exB.ad) (memB exA.ad) [] [⟨#[5]⟩] = _
  rw [mrg, if_pos h5, mrg]
 rw [e1, e2]
 rfl
theorem jnAB2 : (jn exA exB2) = (Dl.zero, 8) := by
 unfold jn
 rw [if_neg (by rw [msgA]; simp), if_neg (by rw [msgB2]; simp), if_neg (by decide), if_neg (by decide), if_pos clashAB2]
theorem jnAB3 : (jn exA exB3) = (Dl.zero, 21) := by
 unfold jn
 rw [if_neg (by rw [msgA]; simp), if_neg (by rw [msgB3]; simp), if_pos (by decide)]
theorem BxC.newN (W : World) {N : Nat} (h : W.heap.size = N) (cs : Array Value) (T : TypeId) : BxC (W.alloc (.cells cs T)) N cs T := by
 subst h; exact BxC.new _ _ _
theorem sln_bxc {W : World} {B : Nat} {l : List ByteArray} {T : TypeId} (h : BxC W B (l.map Value.string).toArray T) (hl : l.length ≤ 1000000) : SlN W (some ⟨B, 0, none⟩) l.length l.length l := by
 refine ⟨rfl, Nat.le_refl _, by omega, B, 0, fun _ => rfl, fun k s hk => ?_⟩
 rw [Nat.zero_add, h.cell k]
 simp [hk]
theorem sl_ne {w : World} {A : Option Addr} {n c B : Nat} {l : List ByteArray} {cs : Array Value} {T : TypeId} {x : ByteArray} (h : SlN w A n c l) (hb : BxC w B cs T) (hx : l[0]? = some x) (hn : ∀ k : Nat, cs[k]? ≠ some (.string x)) : ∀ ad, A = some ad → ad.block ≠ B := fun ad he e => by
 obtain ⟨b, o, rfl, e1⟩ := h.cell hx
 cases he
 simp only [] at e
 subst e
 rw [hb.cell] at e1
 exact hn _ e1
theorem szEx {d : Dl} (h : d.str.all (fun s => decide (s.size ≤ 1)) = true) : SzL d.str := fun s hs => by
 have := List.all_eq_true.1 h s hs
 simp only [decide_eq_true_eq] at this
 omega
theorem law_awake (w : World) : Calls Tryz.prog 6 #[] w (Ret (.bool true) w) := by
 obtain ⟨N, hN⟩ : ∃ N, w.heap.size = N := ⟨_, rfl⟩
 have HN := Hq hN
 have s1 : (w.alloc (.cells #[.string ⟨#[3]⟩, .string ⟨#[5]⟩] 22)).heap.size = N + 1 := by simp [hN]
 have s2 : ((w.alloc (.cells #[.string ⟨#[3]⟩, .string ⟨#[5]⟩] 22)).alloc (.cells #[.int .i64 0, .int .i64 1, .slice (some ⟨N, 0, none⟩) 2 2, .slice none 0 0, .string ⟨#[4]⟩, .string ⟨#[16]⟩, .string ⟨#[]⟩, .string ⟨#[]⟩] 31)).heap.size = N + 1 + 1 := by simp [hN]
 have s3 : (((w.alloc (.cells #[.string ⟨#[3]⟩, .string ⟨#[5]⟩] 22)).alloc (.cells #[.int .i64 0, .int .i64 1, .slice (some ⟨N, 0, none⟩) 2 2, .slice none 0 0, .string ⟨#[4]⟩, .string ⟨#[16]⟩, .string ⟨#[]⟩, .string ⟨#[]⟩] 31)).alloc (.cells #[.string ⟨#[7]⟩] 22)).heap.size = N + 1 + 1 + 1 := by simp [hN]
 have s4 : ((((w.alloc (.cells #[.string ⟨#[3]⟩, .string ⟨#[5]⟩] 22)).alloc (.cells #[.int .i64 0, .int .i64 1, .slice (some ⟨N, 0, none⟩) 2 2, .slice none 0 0, .string ⟨#[4]⟩, .string ⟨#[16]⟩, .string ⟨#[]⟩, .string ⟨#[]⟩] 31)).alloc (.cells #[.string ⟨#[7]⟩] 22)).alloc (.cells #[.string ⟨#[5]⟩] 22)).heap.size = N + 1 + 1 + 1 + 1 := by simp [hN]
 obtain ⟨W1, hW1⟩ : ∃ W1, (((((w.alloc (.cells #[.string ⟨#[3]⟩, .string ⟨#[5]⟩] 22)).alloc (.cells #[.int .i64 0, .int .i64 1, .slice (some ⟨N, 0, none⟩) 2 2, .slice none 0 0, .string ⟨#[4]⟩, .string ⟨#[16]⟩, .string ⟨#[]⟩, .string ⟨#[]⟩] 31)).alloc (.cells #[.string ⟨#[7]⟩] 22)).alloc (.cells #[.string ⟨#[5]⟩] 22)).alloc (.cells #[.int .i64 1, .int .i64 2, .slice (some ⟨N + 1 + 1, 0, none⟩) 1 1, .slice (some ⟨N + 1 + 1 + 1, 0, none⟩) 1 1, .string ⟨#[16]⟩, .string ⟨#[23]⟩, .string ⟨#[]⟩, .string ⟨#[]⟩] 31)) = W1 := ⟨_, rfl⟩
 have HL35 := Hq (show BxC W1 N #[.string ⟨#[3]⟩, .string ⟨#[5]⟩] 22 from by rw [← hW1]; exact ((((BxC.newN w hN _ _).alloc _).alloc _).alloc _).alloc _)
 have HA1 := Hq (show BxC W1 (N + 1) #[.int .i64 0, .int .i64 1, .slice (some ⟨N, 0, none⟩) 2 2, .slice none 0 0, .string ⟨#[4]⟩, .string ⟨#[16]⟩, .string ⟨#[]⟩, .string ⟨#[]⟩] 31 from by rw [← hW1]; exact (((BxC.newN _ s1 _ _).alloc _).alloc _).alloc _)
 have HL7 := Hq (show BxC W1 (N + 1 + 1) #[.string ⟨#[7]⟩] 22 from by rw [← hW1]; exact ((BxC.newN _ s2 _ _).alloc _).alloc _)
 have HL5 := Hq (show BxC W1 (N + 1 + 1 + 1) #[.string ⟨#[5]⟩] 22 from by rw [← hW1]; exact (BxC.newN _ s3 _ _).alloc _)
 have HB1 := Hq (show BxC W1 (N + 1 + 1 + 1 + 1) #[.int .i64 1, .int .i64 2, .slice (some ⟨N + 1 + 1, 0, none⟩) 1 1, .slice (some ⟨N + 1 + 1 + 1, 0, none⟩) 1 1, .string ⟨#[16]⟩, .string ⟨#[23]⟩, .string ⟨#[]⟩, .string ⟨#[]⟩] 31 from by rw [← hW1]; exact BxC.newN _ s4 _ _)
 have HW1 := Hq (show Below N w W1 from by rw [← hW1, ← hN]; exact (((((Below.refl _ _).alloc (Nat.le_refl _) _).alloc (by simp) _).alloc (by simp; omega) _).alloc (by simp; omega) _).alloc (by simp; omega) _)
 have HJ1 := Hq (ep_Join exA exB (some ⟨N, 0, none⟩) none (some ⟨N + 1 + 1, 0, none⟩) (some ⟨N + 1 + 1 + 1, 0, none⟩) 2 2 0 0 1 1 1 1 W1 (sln_bxc (l := exA.ad) HL35.out (by decide)) (SlN.nil _ _ (by omega) _) (sln_bxc (l := exB.ad) HL7.out (by decide)) (sln_bxc (l := exB.rm) HL5.out (by decide)) (by decide) (by decide) (by decide) (by decide) (szEx (by decide)) (szEx (by decide)))
 rw [jnAB] at HJ1
 have HW1E := Hq hW1
 clear s1 s2 s3 s4 hW1
 go_enter Tryz.func6, Tryz.ntmps6
 go_wp2_with fail
 rw [HW1E.out]
 refine (show Calls _ _ _ _ _ from HJ1.out).mono ?_
 rintro e w2 ⟨A1, m1, d1, A2, m2, d2, rfl, hs1, hs2, hb⟩
 obtain rfl : 2 = m1 := hs1.1
 obtain rfl : 0 = m2 := hs2.1
 rw [show exC.arr (.slice A1 2 d1) (.slice A2 0 d2) = #[.int .i64 0, .int .i64 2, .slice A1 2 d1, .slice A2 0 d2, .string ⟨#[4]⟩, .string ⟨#[23]⟩, .string ⟨#[]⟩, .string ⟨#[]⟩] from rfl]
 have HS1 := Hq hs1
 have hA2 : BxC w2 (N + 1) _ _ := HA1.out.next hb
 have hB2 : BxC w2 (N + 1 + 1 + 1 + 1) _ _ := HB1.out.next hb
 have HL35b := Hq (HL35.out.next hb)
 have HL5b := Hq (HL5.out.next hb)
 have HW2 := Hq (HW1.out.trans (hb.mono (by have := HL35.out.lt; omega)))
 obtain ⟨W3, hW3⟩ : ∃ W3, (w2.alloc (.cells #[.int .i64 0, .int .i64 2, .slice A1 2 d1, .slice A2 0 d2, .string ⟨#[4]⟩, .string ⟨#[23]⟩, .string ⟨#[]⟩, .string ⟨#[]⟩] 31)).alloc (.cells #[.string ⟨#[3]⟩] 22) = W3 := ⟨_, rfl⟩
 have hb23 : Below w2.heap.size w2 W3 := by rw [← hW3]; exact ((Below.refl _ _).alloc (Nat.le_refl _) _).alloc (by simp) _
 have HC3 := Hq (show BxC W3 w2.heap.size #[.int .i64 0, .int .i64 2, .slice A1 2 d1, .slice A2 0 d2, .string ⟨#[4]⟩, .string ⟨#[23]⟩, .string ⟨#[]⟩, .string ⟨#[]⟩] 31 from by rw [← hW3]; exact (BxC.new _ _ _).alloc _)
 have HL3 := Hq (show BxC W3 (w2.heap.size + 1) #[.string ⟨#[3]⟩] 22 from by rw [← hW3]; exact BxC.newN _ (by simp) _ _)
 have hA3 := hA2.next hb23
 have hB3 := hB2.next hb23
 have x0 : W3.cell? ⟨N + 1, 0, none⟩ = some (.int .i64 0) := BxC.cell hA3 0
 have x1 : W3.cell? ⟨N + 1, 1, none⟩ = some (.int .i64 1) := BxC.cell hA3 1
 have x2 : W3.cell? ⟨N + 1, 2, none⟩ = some (.slice (some ⟨N, 0, none⟩) 2 2) := BxC.cell hA3 2
 have x3 : W3.cell? ⟨N + 1, 3, none⟩ = some (.slice none 0 0) := BxC.cell hA3 3
 have x4 : W3.cell? ⟨N + 1, 4, none⟩ = some (.string ⟨#[4]⟩) := BxC.cell hA3 4
 have x5 : W3.cell? ⟨N + 1, 5, none⟩ = some (.string ⟨#[16]⟩) := BxC.cell hA3 5
 have x6 : W3.cell? ⟨N + 1, 6, none⟩ = some (.string ⟨#[]⟩) := BxC.cell hA3 6
 have x7 : W3.cell? ⟨N + 1, 7, none⟩ = some (.string ⟨#[]⟩) := BxC.cell hA3 7
 have y0 : W3.cell? ⟨N + 1 + 1 + 1 + 1, 0, none⟩ = some (.int .i64 1) := BxC.cell hB3 0
 have y1 : W3.cell? ⟨N + 1 + 1 + 1 + 1, 1, none⟩ = some (.int .i64 2) := BxC.cell hB3 1
 have y2 : W3.cell? ⟨N + 1 + 1 + 1 + 1, 2, none⟩ = some (.slice (some ⟨N + 1 + 1, 0, none⟩) 1 1) := BxC.cell hB3 2
 have y3 : W3.cell? ⟨N + 1 + 1 + 1 + 1, 3, none⟩ = some (.slice (some ⟨N + 1 + 1 + 1, 0, none⟩) 1 1) := BxC.cell hB3 3
 have y4 : W3.cell? ⟨N + 1 + 1 + 1 + 1, 4, none⟩ = some (.string ⟨#[16]⟩) := BxC.cell hB3 4
 have y5 : W3.cell? ⟨N + 1 + 1 + 1 + 1, 5, none⟩ = some (.string ⟨#[23]⟩) := BxC.cell hB3 5
 have y6 : W3.cell? ⟨N + 1 + 1 + 1 + 1, 6, none⟩ = some (.string ⟨#[]⟩) := BxC.cell hB3 6
 have y7 : W3.cell? ⟨N + 1 + 1 + 1 + 1, 7, none⟩ = some (.string ⟨#[]⟩) := BxC.cell hB3 7
 have fy : W3.frozen? ⟨N + 1 + 1 + 1 + 1, 2, none⟩ = false := hB3.free 2
 obtain ⟨W4, hW4⟩ : ∃ W4, W3.setCell ⟨N + 1 + 1 + 1 + 1, 2, none⟩ (.slice (some ⟨w2.heap.size + 1, 0, none⟩) 1 1) = W4 := ⟨_, rfl⟩
 have hA4 : BxC W4 (N + 1) #[.int .i64 0, .int .i64 1, .slice (some ⟨N, 0, none⟩) 2 2, .slice none 0 0, .string ⟨#[4]⟩, .string ⟨#[16]⟩, .string ⟨#[]⟩, .string ⟨#[]⟩] 31 := by rw [← hW4]; exact hA3.other (C := N + 1 + 1 + 1 + 1) (k := 2) (by omega) _
 have hB4 : BxC W4 (N + 1 + 1 + 1 + 1) #[.int .i64 1, .int .i64 2, .slice (some ⟨w2.heap.size + 1, 0, none⟩) 1 1, .slice (some ⟨N + 1 + 1 + 1, 0, none⟩) 1 1, .string ⟨#[16]⟩, .string ⟨#[23]⟩, .string ⟨#[]⟩, .string ⟨#[]⟩] 31 := by rw [← hW4]; exact hB3.set (k := 2) (.slice (some ⟨w2.heap.size + 1, 0, none⟩) 1 1)
 have hlt2 := hB2.lt
 have HC4 := Hq (show BxC W4 w2.heap.size #[.int .i64 0, .int .i64 2, .slice A1 2 d1, .slice A2 0 d2, .string ⟨#[4]⟩, .string ⟨#[23]⟩, .string ⟨#[]⟩, .string ⟨#[]⟩] 31 from by rw [← hW4]; exact HC3.out.other (C := N + 1 + 1 + 1 + 1) (k := 2) (by omega) _)
 have HL4 := Hq (show BxC W4 (w2.heap.size + 1) #[.string ⟨#[3]⟩] 22 from by rw [← hW4]; exact HL3.out.other (C := N + 1 + 1 + 1 + 1) (k := 2) (by omega) _)
 have HL35d := Hq (show BxC W4 N #[.string ⟨#[3]⟩, .string ⟨#[5]⟩] 22 from by rw [← hW4]; exact (HL35b.out.next hb23).other (C := N + 1 + 1 + 1 + 1) (k := 2) (by omega) _)
 have HL5d := Hq (show BxC W4 (N + 1 + 1 + 1) #[.string ⟨#[5]⟩] 22 from by rw [← hW4]; exact (HL5b.out.next hb23).other (C := N + 1 + 1 + 1 + 1) (k := 2) (by omega) _)
 have HWL2 := Hq hlt2
 have HW4 := Hq (show Below N w W4 from by rw [← hW4]; exact (HW2.out.trans (hb23.mono (by omega))).setCell (p := ⟨N + 1 + 1 + 1 + 1, 2, none⟩) (by simp only []; omega) _)
 have HA4 := Hq hA4
 have HB4 := Hq hB4
 have HS4 := Hq (show SlN W4 A1 2 d1 exC.ad from hs1.of_blocks (fun h0 ad he => by
  have h1 := sl_ne hs1 hB2 (x := ⟨#[3]⟩) rfl (by intro k h; rcases k with _ | _ | _ | _ | _ | _ | _ | _ | k <;> simp at h) ad he
  have h2 : ad.block < w2.heap.size := by subst he; exact hs1.lt h0
  rw [← hW4, heap_setCell_other _ _ _ _ (show ad.block ≠ N + 1 + 1 + 1 + 1 from h1)]
  exact hb23.block _ h2))
 have s0 : W4.cell? ⟨N + 1, 0, none⟩ = some (.int .i64 0) := BxC.cell hA4 0
 have s1 : W4.cell? ⟨N + 1, 1, none⟩ = some (.int .i64 1) := BxC.cell hA4 1
 have s2 : W4.cell? ⟨N + 1, 2, none⟩ = some (.slice (some ⟨N, 0, none⟩) 2 2) := BxC.cell hA4 2
 have s3 : W4.cell? ⟨N + 1, 3, none⟩ = some (.slice none 0 0) := BxC.cell hA4 3
 have s4 : W4.cell? ⟨N + 1, 4, none⟩ = some (.string ⟨#[4]⟩) := BxC.cell hA4 4
 have s5 : W4.cell? ⟨N + 1, 5, none⟩ = some (.string ⟨#[16]⟩) := BxC.cell hA4 5
 have s6 : W4.cell? ⟨N + 1, 6, none⟩ = some (.string ⟨#[]⟩) := BxC.cell hA4 6
 have s7 : W4.cell? ⟨N + 1, 7, none⟩ = some (.string ⟨#[]⟩) := BxC.cell hA4 7
 have t0 : W4.cell? ⟨N + 1 + 1 + 1 + 1, 0, none⟩ = some (.int .i64 1) := BxC.cell hB4 0
 have t1 : W4.cell? ⟨N + 1 + 1 + 1 + 1, 1, none⟩ = some (.int .i64 2) := BxC.cell hB4 1
 have t2 : W4.cell? ⟨N + 1 + 1 + 1 + 1, 2, none⟩ = some (.slice (some ⟨w2.heap.size + 1, 0, none⟩) 1 1) := BxC.cell hB4 2
 have t3 : W4.cell? ⟨N + 1 + 1 + 1 + 1, 3, none⟩ = some (.slice (some ⟨N + 1 + 1 + 1, 0, none⟩) 1 1) := BxC.cell hB4 3
 have t4 : W4.cell? ⟨N + 1 + 1 + 1 + 1, 4, none⟩ = some (.string ⟨#[16]⟩) := BxC.cell hB4 4
 have t5 : W4.cell? ⟨N + 1 + 1 + 1 + 1, 5, none⟩ = some (.string ⟨#[23]⟩) := BxC.cell hB4 5
 have t6 : W4.cell? ⟨N + 1 + 1 + 1 + 1, 6, none⟩ = some (.string ⟨#[]⟩) := BxC.cell hB4 6
 have t7 : W4.cell? ⟨N + 1 + 1 + 1 + 1, 7, none⟩ = some (.string ⟨#[]⟩) := BxC.cell hB4 7
 have HJ2 := Hq (ep_Join exA exB2 (some ⟨N, 0, none⟩) none (some ⟨w2.heap.size + 1, 0, none⟩) (some ⟨N + 1 + 1 + 1, 0, none⟩) 2 2 0 0 1 1 1 1 W4 (sln_bxc (l := exA.ad) HL35d.out (by decide)) (SlN.nil _ _ (by omega) _) (sln_bxc (l := exB2.ad) HL4.out (by decide)) (sln_bxc (l := exB2.rm) HL5d.out (by decide)) (by decide) (by decide) (by decide) (by decide) (szEx (by decide)) (szEx (by decide)))
 rw [jnAB2] at HJ2
 clear hb hb23 hA2 hB2 hA3 hB3 hA4 hB4 hs1 hs2 hlt2
 go_wp2_with fail
 refine (show Calls _ _ _ _ _ from HJ2.out).mono ?_
 rintro e w5 ⟨A3, m3, d3, A4, m4, d4, rfl, hs3, hs4, hb⟩
 obtain rfl : 0 = m3 := hs3.1
 obtain rfl : 0 = m4 := hs4.1
 rw [show Dl.zero.arr (.slice A3 0 d3) (.slice A4 0 d4) = #[.int .i64 0, .int .i64 0, .slice A3 0 d3, .slice A4 0 d4, .string ⟨#[]⟩, .string ⟨#[]⟩, .string ⟨#[]⟩, .string ⟨#[]⟩] from rfl]
 have hb56 : Below w5.heap.size w5 (w5.alloc (.cells #[.int .i64 0, .int .i64 0, .slice A3 0 d3, .slice A4 0 d4, .string ⟨#[]⟩, .string ⟨#[]⟩, .string ⟨#[]⟩, .string ⟨#[]⟩] 31)) := (Below.refl _ _).alloc (Nat.le_refl _) _
 obtain ⟨W6, hW6⟩ : ∃ W6, w5.alloc (.cells #[.int .i64 0, .int .i64 0, .slice A3 0 d3, .slice A4 0 d4, .string ⟨#[]⟩, .string ⟨#[]⟩, .string ⟨#[]⟩, .string ⟨#[]⟩] 31) = W6 := ⟨_, rfl⟩
 rw [hW6] at hb56
 have hb46 := hb.trans (hb56.mono hb.size)
 have hA6 := HA4.out.next hb46
 have hB6 := HB4.out.next hb46
 have y0 : W6.cell? ⟨N + 1 + 1 + 1 + 1, 0, none⟩ = some (.int .i64 1) := hB6.cell 0
 have y1 : W6.cell? ⟨N + 1 + 1 + 1 + 1, 1, none⟩ = some (.int .i64 2) := hB6.cell 1
 have fy0 : W6.frozen? ⟨N + 1 + 1 + 1 + 1, 0, none⟩ = false := hB6.free 0
 have fy1 : W6.frozen? ⟨N + 1 + 1 + 1 + 1, 1, none⟩ = false := hB6.free 1
 obtain ⟨W7, hW7⟩ : ∃ W7, (W6.setCell ⟨N + 1 + 1 + 1 + 1, 0, none⟩ (.int .i64 2)).setCell ⟨N + 1 + 1 + 1 + 1, 1, none⟩ (.int .i64 3) = W7 := ⟨_, rfl⟩
 rw [← hW6] at y0 y1 fy0 fy1
 have hA7 : BxC W7 (N + 1) #[.int .i64 0, .int .i64 1, .slice (some ⟨N, 0, none⟩) 2 2, .slice none 0 0, .string ⟨#[4]⟩, .string ⟨#[16]⟩, .string ⟨#[]⟩, .string ⟨#[]⟩] 31 := by rw [← hW7]; exact (hA6.other (C := N + 1 + 1 + 1 + 1) (k := 0) (by omega) _).other (C := N + 1 + 1 + 1 + 1) (k := 1) (by omega) _
 have hB7 : BxC W7 (N + 1 + 1 + 1 + 1) #[.int .i64 2, .int .i64 3, .slice (some ⟨w2.heap.size + 1, 0, none⟩) 1 1, .slice (some ⟨N + 1 + 1 + 1, 0, none⟩) 1 1, .string ⟨#[16]⟩, .string ⟨#[23]⟩, .string ⟨#[]⟩, .string ⟨#[]⟩] 31 := by rw [← hW7]; exact (hB6.set (k := 0) (.int .i64 2)).set (k := 1) (.int .i64 3)
 have HC7 := Hq (show BxC W7 w2.heap.size #[.int .i64 0, .int .i64 2, .slice A1 2 d1, .slice A2 0 d2, .string ⟨#[4]⟩, .string ⟨#[23]⟩, .string ⟨#[]⟩, .string ⟨#[]⟩] 31 from by rw [← hW7]; exact ((HC4.out.next hb46).other (C := N + 1 + 1 + 1 + 1) (k := 0) (by have := HWL2.out; omega) _).other (C := N + 1 + 1 + 1 + 1) (k := 1) (by have := HWL2.out; omega) _)
 have HL7b := Hq (show BxC W7 (w2.heap.size + 1) #[.string ⟨#[3]⟩] 22 from by rw [← hW7]; exact ((HL4.out.next hb46).other (C := N + 1 + 1 + 1 + 1) (k := 0) (by have := HWL2.out; omega) _).other (C := N + 1 + 1 + 1 + 1) (k := 1) (by have := HWL2.out; omega) _)
 have HL35g := Hq (show BxC W7 N #[.string ⟨#[3]⟩, .string ⟨#[5]⟩] 22 from by rw [← hW7]; exact ((HL35d.out.next hb46).other (C := N + 1 + 1 + 1 + 1) (k := 0) (by omega) _).other (C := N + 1 + 1 + 1 + 1) (k := 1) (by omega) _)
 have HL5g := Hq (show BxC W7 (N + 1 + 1 + 1) #[.string ⟨#[5]⟩] 22 from by rw [← hW7]; exact ((HL5d.out.next hb46).other (C := N + 1 + 1 + 1 + 1) (k := 0) (by omega) _).other (C := N + 1 + 1 + 1 + 1) (k := 1) (by omega) _)
 have HW7 := Hq (show Below N w W7 from by rw [← hW7]; exact ((HW4.out.trans (hb46.mono (by have := HA4.out.lt; omega))).setCell (p := ⟨N + 1 + 1 + 1 + 1, 0, none⟩) (by simp only []; omega) _).setCell (p := ⟨N + 1 + 1 + 1 + 1, 1, none⟩) (by simp only []; omega) _)
 have HS7 := Hq (show SlN W7 A1 2 d1 exC.ad from HS4.out.of_blocks (fun h0 ad he => by
  have h1 := sl_ne HS4.out HB4.out (x := ⟨#[3]⟩) rfl (by intro k h; rcases k with _ | _ | _ | _ | _ | _ | _ | _ | k <;> simp at h) ad he
  have h2 : ad.block < W4.heap.size := by subst he; exact HS4.out.lt h0
  rw [← hW7, heap_setCell_other _ _ _ _ (show ad.block ≠ N + 1 + 1 + 1 + 1 from h1), heap_setCell_other _ _ _ _ (show ad.block ≠ N + 1 + 1 + 1 + 1 from h1)]
  exact hb46.block _ h2))
 have HA7 := Hq hA7
 have HB7 := Hq hB7
 have HW7E := Hq hW7
 have HW6E := Hq hW6
 have u0 : W7.cell? ⟨N + 1, 0, none⟩ = some (.int .i64 0) := BxC.cell hA7 0
 have u1 : W7.cell? ⟨N + 1, 1, none⟩ = some (.int .i64 1) := BxC.cell hA7 1
 have u2 : W7.cell? ⟨N + 1, 2, none⟩ = some (.slice (some ⟨N, 0, none⟩) 2 2) := BxC.cell hA7 2
 have u3 : W7.cell? ⟨N + 1, 3, none⟩ = some (.slice none 0 0) := BxC.cell hA7 3
 have u4 : W7.cell? ⟨N + 1, 4, none⟩ = some (.string ⟨#[4]⟩) := BxC.cell hA7 4
 have u5 : W7.cell? ⟨N + 1, 5, none⟩ = some (.string ⟨#[16]⟩) := BxC.cell hA7 5
 have u6 : W7.cell? ⟨N + 1, 6, none⟩ = some (.string ⟨#[]⟩) := BxC.cell hA7 6
 have u7 : W7.cell? ⟨N + 1, 7, none⟩ = some (.string ⟨#[]⟩) := BxC.cell hA7 7
 have v0 : W7.cell? ⟨N + 1 + 1 + 1 + 1, 0, none⟩ = some (.int .i64 2) := BxC.cell hB7 0
 have v1 : W7.cell? ⟨N + 1 + 1 + 1 + 1, 1, none⟩ = some (.int .i64 3) := BxC.cell hB7 1
 have v2 : W7.cell? ⟨N + 1 + 1 + 1 + 1, 2, none⟩ = some (.slice (some ⟨w2.heap.size + 1, 0, none⟩) 1 1) := BxC.cell hB7 2
 have v3 : W7.cell? ⟨N + 1 + 1 + 1 + 1, 3, none⟩ = some (.slice (some ⟨N + 1 + 1 + 1, 0, none⟩) 1 1) := BxC.cell hB7 3
 have v4 : W7.cell? ⟨N + 1 + 1 + 1 + 1, 4, none⟩ = some (.string ⟨#[16]⟩) := BxC.cell hB7 4
 have v5 : W7.cell? ⟨N + 1 + 1 + 1 + 1, 5, none⟩ = some (.string ⟨#[23]⟩) := BxC.cell hB7 5
 have v6 : W7.cell? ⟨N + 1 + 1 + 1 + 1, 6, none⟩ = some (.string ⟨#[]⟩) := BxC.cell hB7 6
 have v7 : W7.cell? ⟨N + 1 + 1 + 1 + 1, 7, none⟩ = some (.string ⟨#[]⟩) := BxC.cell hB7 7
 have HJ3 := Hq (ep_Join exA exB3 (some ⟨N, 0, none⟩) none (some ⟨w2.heap.size + 1, 0, none⟩) (some ⟨N + 1 + 1 + 1, 0, none⟩) 2 2 0 0 1 1 1 1 W7 (sln_bxc (l := exA.ad) HL35g.out (by decide)) (SlN.nil _ _ (by omega) _) (sln_bxc (l := exB3.ad) HL7b.out (by decide)) (sln_bxc (l := exB3.rm) HL5g.out (by decide)) (by decide) (by decide) (by decide) (by decide) (szEx (by decide)) (szEx (by decide)))
 rw [jnAB3] at HJ3
 rw [← hW6] at hW7
 clear hb hb56 hb46 hA6 hB6 hA7 hB7 hs3 hs4 hW6 s0 s1 s2 s3 s4 s5 s6 s7 t0 t1 t2 t3 t4 t5 t6 t7 hW4 hW3 x0 x1 x2 x3 x4 x5 x6 x7
 go_wp2_with fail
 refine (show Calls _ _ _ _ _ from HJ3.out).mono ?_
 rintro e w8 ⟨A5, m5, d5, A6, m6, d6, rfl, hs5, hs6, hb⟩
 obtain rfl : 0 = m5 := hs5.1
 obtain rfl : 0 = m6 := hs6.1
 rw [show Dl.zero.arr (.slice A5 0 d5) (.slice A6 0 d6) = #[.int .i64 0, .int .i64 0, .slice A5 0 d5, .slice A6 0 d6, .string ⟨#[]⟩, .string ⟨#[]⟩, .string ⟨#[]⟩, .string ⟨#[]⟩] from rfl]
 have hb89 : Below w8.heap.size w8 (w8.alloc (.cells #[.int .i64 0, .int .i64 0, .slice A5 0 d5, .slice A6 0 d6, .string ⟨#[]⟩, .string ⟨#[]⟩, .string ⟨#[]⟩, .string ⟨#[]⟩] 31)) := (Below.refl _ _).alloc (Nat.le_refl _) _
 have hb79 := hb.trans (hb89.mono hb.size)
 have hA9 := HA7.out.next hb79
 obtain ⟨W10, hW10⟩ : ∃ W10, (w8.alloc (.cells #[.int .i64 0, .int .i64 0, .slice A5 0 d5, .slice A6 0 d6, .string ⟨#[]⟩, .string ⟨#[]⟩, .string ⟨#[]⟩, .string ⟨#[]⟩] 31)).alloc (.cells #[.int .i64 0, .int .i64 1, .slice (some ⟨N, 0, none⟩) 2 2, .slice none 0 0, .string ⟨#[4]⟩, .string ⟨#[16]⟩, .string ⟨#[]⟩, .string ⟨#[]⟩] 31) = W10 := ⟨_, rfl⟩
 have hb810 : Below w8.heap.size w8 W10 := by rw [← hW10]; exact hb89.alloc (by simp) _
 have hb710 := hb.trans (hb810.mono hb.size)
 have HX10 := Hq (show BxC W10 (w8.heap.size + 1) #[.int .i64 0, .int .i64 1, .slice (some ⟨N, 0, none⟩) 2 2, .slice none 0 0, .string ⟨#[4]⟩, .string ⟨#[16]⟩, .string ⟨#[]⟩, .string ⟨#[]⟩] 31 from by rw [← hW10]; exact BxC.newN _ (by simp) _ _)
 have HC10 := Hq (HC7.out.next hb710)
 have HS10 := Hq (HS7.out.kept hb710 (Nat.le_refl _))
 have HW10 := Hq (HW7.out.trans (hb710.mono (by have := HA7.out.lt; omega)))
 have hC10 := HC10.out
 have x0 : (w8.alloc (.cells #[.int .i64 0, .int .i64 0, .slice A5 0 d5, .slice A6 0 d6, .string ⟨#[]⟩, .string ⟨#[]⟩, .string ⟨#[]⟩, .string ⟨#[]⟩] 31)).cell? ⟨N + 1, 0, none⟩ = some (.int .i64 0) := BxC.cell hA9 0
 have x1 : (w8.alloc (.cells #[.int .i64 0, .int .i64 0, .slice A5 0 d5, .slice A6 0 d6, .string ⟨#[]⟩, .string ⟨#[]⟩, .string ⟨#[]⟩, .string ⟨#[]⟩] 31)).cell? ⟨N + 1, 1, none⟩ = some (.int .i64 1) := BxC.cell hA9 1
 have x2 : (w8.alloc (.cells #[.int .i64 0, .int .i64 0, .slice A5 0 d5, .slice A6 0 d6, .string ⟨#[]⟩, .string ⟨#[]⟩, .string ⟨#[]⟩, .string ⟨#[]⟩] 31)).cell? ⟨N + 1, 2, none⟩ = some (.slice (some ⟨N, 0, none⟩) 2 2) := BxC.cell hA9 2
 have x3 : (w8.alloc (.cells #[.int .i64 0, .int .i64 0, .slice A5 0 d5, .slice A6 0 d6, .string ⟨#[]⟩, .string ⟨#[]⟩, .string ⟨#[]⟩, .string ⟨#[]⟩] 31)).cell? ⟨N + 1, 3, none⟩ = some (.slice none 0 0) := BxC.cell hA9 3
 have x4 : (w8.alloc (.cells #[.int .i64 0, .int .i64 0, .slice A5 0 d5, .slice A6 0 d6, .string ⟨#[]⟩, .string ⟨#[]⟩, .string ⟨#[]⟩, .string ⟨#[]⟩] 31)).cell? ⟨N + 1, 4, none⟩ = some (.string ⟨#[4]⟩) := BxC.cell hA9 4
 have x5 : (w8.alloc (.cells #[.int .i64 0, .int .i64 0, .slice A5 0 d5, .slice A6 0 d6, .string ⟨#[]⟩, .string ⟨#[]⟩, .string ⟨#[]⟩, .string ⟨#[]⟩] 31)).cell? ⟨N + 1, 5, none⟩ = some (.string ⟨#[16]⟩) := BxC.cell hA9 5
 have x6 : (w8.alloc (.cells #[.int .i64 0, .int .i64 0, .slice A5 0 d5, .slice A6 0 d6, .string ⟨#[]⟩, .string ⟨#[]⟩, .string ⟨#[]⟩, .string ⟨#[]⟩] 31)).cell? ⟨N + 1, 6, none⟩ = some (.string ⟨#[]⟩) := BxC.cell hA9 6
 have x7 : (w8.alloc (.cells #[.int .i64 0, .int .i64 0, .slice A5 0 d5, .slice A6 0 d6, .string ⟨#[]⟩, .string ⟨#[]⟩, .string ⟨#[]⟩, .string ⟨#[]⟩] 31)).cell? ⟨N + 1, 7, none⟩ = some (.string ⟨#[]⟩) := BxC.cell hA9 7
 have z0 : W10.cell? ⟨w2.heap.size, 0, none⟩ = some (.int .i64 0) := BxC.cell hC10 0
 have z1 : W10.cell? ⟨w2.heap.size, 1, none⟩ = some (.int .i64 2) := BxC.cell hC10 1
 have z2 : W10.cell? ⟨w2.heap.size, 2, none⟩ = some (.slice A1 2 d1) := BxC.cell hC10 2
 have z3 : W10.cell? ⟨w2.heap.size, 3, none⟩ = some (.slice A2 0 d2) := BxC.cell hC10 3
 have z4 : W10.cell? ⟨w2.heap.size, 4, none⟩ = some (.string ⟨#[4]⟩) := BxC.cell hC10 4
 have z5 : W10.cell? ⟨w2.heap.size, 5, none⟩ = some (.string ⟨#[23]⟩) := BxC.cell hC10 5
 have z6 : W10.cell? ⟨w2.heap.size, 6, none⟩ = some (.string ⟨#[]⟩) := BxC.cell hC10 6
 have z7 : W10.cell? ⟨w2.heap.size, 7, none⟩ = some (.string ⟨#[]⟩) := BxC.cell hC10 7
 clear hb hb89 hb79 hA9 hb810 hb710 hC10 hs5 hs6 hW7 u0 u1 u2 u3 u4 u5 u6 u7 v0 v1 v2 v3 v4 v5 v6 v7 y0 y1 fy0 fy1
 have HAT := Hq (ep_At exA (w8.heap.size + 1) (.slice (some ⟨N, 0, none⟩) 2 2) (.slice none 0 0) W10 HX10.out)
 go_wp2_with fail
 refine HAT.out.mono ?_
 rintro e wq ⟨rfl, rfl⟩
 rw [show exA.af = ⟨#[16]⟩ from rfl]
 clear hW10
 have HEQ := Hq (sl_Equal [⟨#[3]⟩, ⟨#[7]⟩] A1 (some ⟨W10.heap.size, 0, none⟩) 2 d1 2 2 (W10.alloc (.cells #[.string ⟨#[3]⟩, .string ⟨#[7]⟩] 22)) (HS10.out.kept ((Below.refl _ _).alloc (Nat.le_refl _) _) (Nat.le_refl _)) (SlN.new W10 [⟨#[3]⟩, ⟨#[7]⟩] 22 (by decide)))
 go_wp2_with fail
 refine HEQ.out.mono ?_
 rintro e w12 ⟨rfl, hb⟩
 have hbz : Below W10.heap.size W10 w12 := ((Below.refl W10.heap.size W10).alloc (Nat.le_refl _) _).trans (hb.mono (by simp))
 have hC12 := HC10.out.next hbz
 have HF := Hq (HW10.out.trans (hbz.mono (by have := HX10.out.lt; have := HW10.out.size; have := HN.out; omega)))
 have k0 : w12.cell? ⟨w2.heap.size, 0, none⟩ = some (.int .i64 0) := BxC.cell hC12 0
 have k1 : w12.cell? ⟨w2.heap.size, 1, none⟩ = some (.int .i64 2) := BxC.cell hC12 1
 have k2 : w12.cell? ⟨w2.heap.size, 2, none⟩ = some (.slice A1 2 d1) := BxC.cell hC12 2
 have k3 : w12.cell? ⟨w2.heap.size, 3, none⟩ = some (.slice A2 0 d2) := BxC.cell hC12 3
 have k4 : w12.cell? ⟨w2.heap.size, 4, none⟩ = some (.string ⟨#[4]⟩) := BxC.cell hC12 4
 have k5 : w12.cell? ⟨w2.heap.size, 5, none⟩ = some (.string ⟨#[23]⟩) := BxC.cell hC12 5
 have k6 : w12.cell? ⟨w2.heap.size, 6, none⟩ = some (.string ⟨#[]⟩) := BxC.cell hC12 6
 have k7 : w12.cell? ⟨w2.heap.size, 7, none⟩ = some (.string ⟨#[]⟩) := BxC.cell hC12 7
 clear hb hbz hC12
 go_wp2_with fail
 exact bodyPost_ret (v := .bool true) (by kernel_rfl) rfl ⟨rfl, by rw [HN.out]; exact HF.out⟩
end Go.Proofs.YtehflcnjnnhojaaGreat
namespace Go.Proofs.YtehflcnjnnhojaaGreat
open Go.RowKit
theorem sld_one {w : World} {B : Nat} {d : Dl} {A A' : Option Addr} {n c n' c' : Nat} {T : TypeId} (h : BxC w B #[.int .i64 d.fr, .int .i64 d.to, .slice A n c, .slice A' n' c', .string d.be, .string d.af, .string d.sc, .string d.sr] T) (h1 : SlN w A n c d.ad) (h2 : SlN w A' n' c' d.rm) : SlD w (some ⟨B, 0, none⟩) 1 1 [d] := by
 refine ⟨rfl, Nat.le_refl _, by omega, B, 0, fun _ => rfl, fun k e hk => ?_⟩
 match k, hk with
 | 0, hk =>
  cases hk
  refine ⟨A, n, c, A', n', c', fun j u hu => ?_, h1, h2⟩
  rw [Nat.zero_mul, show 0 + 0 + j = j from by omega, h.cell j]
  have hj : j < 8 := (List.getElem?_eq_some_iff.1 hu).1
  rcases j with _ | _ | _ | _ | _ | _ | _ | _ | j <;> first | exact hu | omega
end Go.Proofs.YtehflcnjnnhojaaGreat

import Derived.Test.YtehflcnjnnhojaaGreatQEpM
import Derived.Deep.AppendLies
set_option linter.unusedVariables false
set_option linter.unusedSimpArgs false
namespace Go.Proofs.YtehflcnjnnhojaaGreat
open Go.RowKit
open Go.Maps Go.WideMaps
def KK (a b : Dl) : Nat → List ByteArray
 | 0 => []
 | 1 => [] ++ a.ad ++ a.rm
 | _ + 2 => [] ++ a.ad ++ a.rm ++ b.ad ++ b.rm
def GG (a b : Dl) : Nat → ByteArray → Int
 | 0 => fun _ => 0
 | 1 => gad (-1) (gad 1 (fun _ => 0) a.ad) a.rm
 | _ + 2 => gad (-1) (gad 1 (gad (-1) (gad 1 (fun _ => 0) a.ad) a.rm) b.ad) b.rm
theorem gad_bound {s : Int} (hs : s = 1 ∨ s = -1) {K l : List ByteArray} {g : ByteArray → Int} (h : ∀ x, -(K.length : Int) ≤ g x ∧ g x ≤ K.length) : ∀ x, -((K ++ l).length : Int) ≤ gad s g l x ∧ gad s g l x ≤ (K ++ l).length := fun x => by
 have h1 := h x
 have h2 := occ_bound l x
 unfold gad
 rw [List.length_append]
 rcases hs with rfl | rfl <;> omega
theorem ms_start {w : World} {M : Nat} {K l : List ByteArray} {g : ByteArray → Int} (s : Int) (h : MS w M K g) : MS w M (K ++ l.take 0) (gad s g (l.take 0)) := by
 have : gad s g (l.take 0) = g := by funext x; unfold gad; simp [occ]
 rw [this]; simpa using h
theorem SlN.oth {M : Nat} {w w' : World} {A : Option Addr} {n c : Nat} {l : List ByteArray} (h : SlN w A n c l) (hM : 0 < n → ∀ ad, A = some ad → ad.block < M) (ho : Oth M w w') : SlN w' A n c l :=
 h.of_blocks (fun h0 ad he => ho.block _ (by subst he; exact h.lt h0) (Nat.ne_of_lt (hM h0 ad he)))
theorem gg_chg {a b : Dl} (ha : a.Good) (hb : b.Good) (x : ByteArray) : GG a b 2 x = chg a b x := by
 show gad (-1) (gad 1 (gad (-1) (gad 1 (fun _ => 0) a.ad) a.rm) b.ad) b.rm x = _
 unfold chg gad
 rw [occ_ind ha.aad.nodup, occ_ind ha.arm.nodup, occ_ind hb.aad.nodup, occ_ind hb.arm.nodup]
 dsimp only
 omega
theorem mem_KK {a b : Dl} (x : ByteArray) : x ∈ KK a b 2 ↔ x ∈ a.ad ++ a.rm ++ b.ad ++ b.rm := by simp [KK]
theorem valid_KK {a b : Dl} (ha : a.Good) (hb : b.Good) : ∀ s ∈ KK a b 2, nvalid s = true := fun s hs => by
 rw [mem_KK] at hs
 simp only [List.mem_append] at hs
 rcases hs with ((h | h) | h) | h
 · exact ha.vad s h
 · exact ha.vrm s h
 · exact hb.vad s h
 · exact hb.vrm s h
theorem own_keep {w w' : World} {base n : Nat} {v : Value} {T : TypeId} {sz : Nat} {xs : List Value} (h : w.ownsRow base T sz v n xs) (hk : ∀ k, v.ownBlock = some k → w'.heap[k]? = w.heap[k]?) : w'.ownsRow base T sz v n xs := by
 refine ⟨h.1, ?_⟩
 rcases h.2 with h | ⟨g, cap, cur, hv, hb, hh, r⟩
 · exact .inl h
 · exact .inr ⟨g, cap, cur, hv, hb, (hk g (by rw [hv]; rfl)).trans hh, r⟩
def jcs (f t : Int) (be af : ByteArray) (v1 v2 : Value) : Array Value := #[.int .i64 f, .int .i64 t, v1, v2, .string be, .string af, .string ⟨#[]⟩, .string ⟨#[]⟩]
structure JS (w0 w : World) (B : Nat) (f t : Int) (be af : ByteArray) (v1 v2 : Value) (f1 f2 : List ByteArray) : Prop where
 box : BxC w B (jcs f t be af v1 v2) 31
 r1 : w.ownsRow w0.heap.size 22 1 v1 f1.length (f1.map Value.string)
 r2 : w.ownsRow w0.heap.size 22 1 v2 f2.length (f2.map Value.string)
 ne : ∀ k, v1.ownBlock = some k → v2.ownBlock ≠ some k
 oth : Oth B w0 w
 lt : B < w0.heap.size
theorem JS.own1 {w0 w : World} {B : Nat} {f t : Int} {be af : ByteArray} {v1 v2 : Value} {f1 f2 : List ByteArray} (h : JS w0 w B f t be af v1 v2 f1 f2) {k : Nat} (hk : v1.ownBlock = some k) : w0.heap.size ≤ k ∧ k < w.heap.size := by
 exact h.r1.lt k hk
theorem JS.own2 {w0 w : World} {B : Nat} {f t : Int} {be af : ByteArray} {v1 v2 : Value} {f1 f2 : List ByteArray} (h : JS w0 w B f t be af v1 v2 f1 f2) {k : Nat} (hk : v2.ownBlock = some k) : w0.heap.size ≤ k ∧ k < w.heap.size := by
 exact h.r2.lt k hk
theorem JS.box1 {w0 w w2 : World} {B : Nat} {f t : Int} {be af : ByteArray} {v1 v2 : Value} {f1 f2 : List ByteArray} {o : Obj} (h : JS w0 w B f t be af v1 v2 f1 f2) (hg : (w.alloc o).grownBy w2 v1.ownBlock) : BxC w2 B (jcs f t be af v1 v2) 31 := by
 have hs := h.oth.size
 have hB := h.lt
 exact ((hg.block B (by simp; omega) (fun e => by have := (h.own1 e.symm).1; omega)).trans (((Below.refl w.heap.size w).alloc (Nat.le_refl _) o).block B (by omega))).trans h.box
theorem JS.box2 {w0 w w2 : World} {B : Nat} {f t : Int} {be af : ByteArray} {v1 v2 : Value} {f1 f2 : List ByteArray} {o : Obj} (h : JS w0 w B f t be af v1 v2 f1 f2) (hg : (w.alloc o).grownBy w2 v2.ownBlock) : BxC w2 B (jcs f t be af v1 v2) 31 := by
 have hs := h.oth.size
 have hB := h.lt
 exact ((hg.block B (by simp; omega) (fun e => by have := (h.own2 e.symm).1; omega)).trans (((Below.refl w.heap.size w).alloc (Nat.le_refl _) o).block B (by omega))).trans h.box
theorem JS.step1 {w0 w w2 : World} {B g cap : Nat} {f t : Int} {be af x : ByteArray} {v1 v2 : Value} {f1 f2 : List ByteArray} {o : Obj} (h : JS w0 w B f t be af v1 v2 f1 f2)
 (hown : w2.ownsRow w0.heap.size 22 1 (.slice (some ⟨g, 0, none⟩) (f1.length + 1) cap) (f1.length + 1) (f1.map Value.string ++ [.string x])) (hg : (w.alloc o).grownBy w2 v1.ownBlock) (hat : v1.ownBlock = some g ∨ g = (w.alloc o).heap.size) :
 JS w0 (w2.setCell ⟨B, 2, none⟩ (.slice (some ⟨g, 0, none⟩) (f1.length + 1) cap)) B f t be af (.slice (some ⟨g, 0, none⟩) (f1.length + 1) cap) v2 (f1 ++ [x]) f2 := by
 have hs := h.oth.size
 have hB := h.lt
 have hb1 : ∀ k, k < w.heap.size → v1.ownBlock ≠ some k → w2.heap[k]? = w.heap[k]? := fun k hk hn => (hg.block k (by simp; omega) (fun e => hn e.symm)).trans (((Below.refl w.heap.size w).alloc (Nat.le_refl _) o).block k hk)
 have hbx : BxC w2 B (jcs f t be af v1 v2) 31 := (hb1 B (by omega) (fun e => by have := (h.own1 e).1; omega)).trans h.box
 have hgB : w0.heap.size ≤ g := by
  rcases hat with e | e
  · exact (h.own1 e).1
  · rw [e]; simp; omega
 refine ⟨by have := hbx.set (k := 2) (.slice (some ⟨g, 0, none⟩) (f1.length + 1) cap); exact this, ?_, ?_, fun k hk => ?_, ?_, h.lt⟩
 · rw [List.length_append, List.map_append]
   refine own_keep hown (fun k hk => ?_)
   have : g = k := by simpa [Value.ownBlock] using hk
   exact heap_setCell_other _ _ _ _ (show k ≠ B by omega)
 · refine own_keep h.r2 (fun k hk => ?_)
   have := h.own2 hk
   rw [heap_setCell_other _ _ _ _ (show k ≠ B by omega)]
   exact hb1 k this.2 (fun e => h.ne k e hk)
 · have hgk : g = k := by simpa [Value.ownBlock] using hk
   subst hgk
   intro e
   rcases hat with e' | e'
   · exact h.ne g e' e
   · have := (h.own2 e).2; rw [e'] at this; simp at this; omega
 · exact ((h.oth.trans (Oth.alloc w o)).grown hg (fun k hk => .inl (h.own1 hk).1)).setCell 2 _
theorem JS.step2 {w0 w w2 : World} {B g cap : Nat} {f t : Int} {be af x : ByteArray} {v1 v2 : Value} {f1 f2 : List ByteArray} {o : Obj} (h : JS w0 w B f t be af v1 v2 f1 f2)
 (hown : w2.ownsRow w0.heap.size 22 1 (.slice (some ⟨g, 0, none⟩) (f2.length + 1) cap) (f2.length + 1) (f2.map Value.string ++ [.string x])) (hg : (w.alloc o).grownBy w2 v2.ownBlock) (hat : v2.ownBlock = some g ∨ g = (w.alloc o).heap.size) :
 JS w0 (w2.setCell ⟨B, 3, none⟩ (.slice (some ⟨g, 0, none⟩) (f2.length + 1) cap)) B f t be af v1 (.slice (some ⟨g, 0, none⟩) (f2.length + 1) cap) f1 (f2 ++ [x]) := by
 have hs := h.oth.size
 have hB := h.lt
 have hb1 : ∀ k, k < w.heap.size → v2.ownBlock ≠ some k → w2.heap[k]? = w.heap[k]? := fun k hk hn => (hg.block k (by simp; omega) (fun e => hn e.symm)).trans (((Below.refl w.heap.size w).alloc (Nat.le_refl _) o).block k hk)
 have hbx : BxC w2 B (jcs f t be af v1 v2) 31 := (hb1 B (by omega) (fun e => by have := (h.own2 e).1; omega)).trans h.box
 have hgB : w0.heap.size ≤ g := by
  rcases hat with e | e
  · exact (h.own2 e).1
  · rw [e]; simp; omega
 refine ⟨by have := hbx.set (k := 3) (.slice (some ⟨g, 0, none⟩) (f2.length + 1) cap); exact this, ?_, ?_, fun k hk e => ?_, ?_, h.lt⟩
 · refine own_keep h.r1 (fun k hk => ?_)
   have := h.own1 hk
   rw [heap_setCell_other _ _ _ _ (show k ≠ B by omega)]
   exact hb1 k this.2 (fun e => h.ne k hk e)
 · rw [List.length_append, List.map_append]
   refine own_keep hown (fun k hk => ?_)
   have : g = k := by simpa [Value.ownBlock] using hk
   exact heap_setCell_other _ _ _ _ (show k ≠ B by omega)
 · have hgk : g = k := by simpa [Value.ownBlock] using e
   subst hgk
   rcases hat with e' | e'
   · exact h.ne g hk e'
   · have := (h.own1 hk).2; rw [e'] at this; simp at this; omega
 · exact ((h.oth.trans (Oth.alloc w o)).grown hg (fun k hk => .inl (h.own2 hk).1)).setCell 3 _
theorem JS.start {w0 : World} {B : Nat} {f t : Int} {be af : ByteArray} (h : BxC w0 B (jcs f t be af (.slice none 0 0) (.slice none 0 0)) 31) : JS w0 w0 B f t be af (.slice none 0 0) (.slice none 0 0) [] [] :=
 ⟨h, World.ownsRow_nil _ _ _ _, World.ownsRow_nil _ _ _ _, (fun k hk => by cases hk), Oth.refl _ _, h.lt⟩
theorem filter_take {l : List ByteArray} {j : Nat} {x : ByteArray} (hx : l[j]? = some x) (p : ByteArray → Bool) : (l.take (j + 1)).filter p = (l.take j).filter p ++ (if p x = true then [x] else []) := by
 rw [List.take_add_one, hx, Option.toList_some, List.filter_append]
 congr 1
 by_cases h : p x = true <;> simp [h]
end Go.Proofs.YtehflcnjnnhojaaGreat
namespace Go.Proofs.YtehflcnjnnhojaaGreat
set_option maxRecDepth 100000
set_option maxHeartbeats 8000000
open Go.RowKit
open Go.Maps Go.WideMaps Go.Shelf
theorem ep_JoinF (a b : Dl) (A1 A2 A3 A4 : Option Addr) (n1 c1 n2 c2 n3 c3 n4 c4 : Nat) (w : World) (h1 : SlN w A1 n1 c1 a.ad) (h2 : SlN w A2 n2 c2 a.rm) (h3 : SlN w A3 n3 c3 b.ad) (h4 : SlN w A4 n4 c4 b.rm) (g1 : n1 ≤ 400000) (g2 : n2 ≤ 400000) (g3 : n3 ≤ 400000) (g4 : n4 ≤ 400000) (za : SzL a.str) (zb : SzL b.str) :
 Calls Tryz.prog 11 #[.agg (a.arr (.slice A1 n1 c1) (.slice A2 n2 c2)), .agg (b.arr (.slice A3 n3 c3) (.slice A4 n4 c4))] w (RetDlF (jn a b) w) := by
 obtain ⟨W0, hW0⟩ : ∃ W0, ((w.alloc (.cells (a.arr (.slice A1 n1 c1) (.slice A2 n2 c2)) 31)).alloc (.cells (b.arr (.slice A3 n3 c3) (.slice A4 n4 c4)) 31)).alloc (.cells (Dl.zero.arr (.slice none 0 0) (.slice none 0 0)) 31) = W0 := ⟨_, rfl⟩
 obtain ⟨P, hP⟩ : ∃ P, w.heap.size = P := ⟨_, rfl⟩
 have HP0 := Hq (show BxC W0 P (a.arr (.slice A1 n1 c1) (.slice A2 n2 c2)) 31 from by rw [← hW0, ← hP]; exact ((BxC.new w _ _).alloc _).alloc _)
 have HQ0 := Hq (show BxC W0 (P + 1) (b.arr (.slice A3 n3 c3) (.slice A4 n4 c4)) 31 from by rw [← hW0, ← hP]; exact (BxC.new1 w _ _ _).alloc _)
 have HR0 := Hq (show BxC W0 (P + 1 + 1) (Dl.zero.arr (.slice none 0 0) (.slice none 0 0)) 31 from by
  rw [← hW0, ← hP]
  have := BxC.new1 (w.alloc (.cells (a.arr (.slice A1 n1 c1) (.slice A2 n2 c2)) 31)) (Dl.zero.arr (.slice none 0 0) (.slice none 0 0)) 31 (.cells (b.arr (.slice A3 n3 c3) (.slice A4 n4 c4)) 31)
  rwa [World.size_alloc] at this)
 have HB0 := Hq (show Below P w W0 from by rw [← hW0, ← hP]; exact (((Below.refl _ _).alloc (Nat.le_refl _) _).alloc (by simp) _).alloc (by simp; omega) _)
 have HW0 := Hq (show P + 3 = W0.heap.size from by rw [← hW0, ← hP]; simp)
 have H1 := Hq (h1.kept HB0.out (Nat.le_of_eq hP))
 have H2 := Hq (h2.kept HB0.out (Nat.le_of_eq hP))
 have H3 := Hq (h3.kept HB0.out (Nat.le_of_eq hP))
 have H4 := Hq (h4.kept HB0.out (Nat.le_of_eq hP))
 have m1 := h1.2.1
 have m2 := h2.2.1
 have m3 := h3.2.1
 have m4 := h4.2.1
 have k1 := h1.2.2.1
 have k2 := h2.2.2.1
 have k3 := h3.2.2.1
 have k4 := h4.2.2.1
 have L1 := Hq h1.1
 have L2 := Hq h2.1
 have L3 := Hq h3.1
 have L4 := Hq h4.1
 have ZA := Hq za
 have ZB := Hq zb
 have p0 : W0.cell? ⟨P, 0, none⟩ = some (.int .i64 a.fr) := BxC.cell HP0.out 0
 have p1 : W0.cell? ⟨P, 1, none⟩ = some (.int .i64 a.to) := BxC.cell HP0.out 1
 have p2 : W0.cell? ⟨P, 2, none⟩ = some (.slice A1 n1 c1) := BxC.cell HP0.out 2
 have p3 : W0.cell? ⟨P, 3, none⟩ = some (.slice A2 n2 c2) := BxC.cell HP0.out 3
 have p4 : W0.cell? ⟨P, 4, none⟩ = some (.string a.be) := BxC.cell HP0.out 4
 have p5 : W0.cell? ⟨P, 5, none⟩ = some (.string a.af) := BxC.cell HP0.out 5
 have p6 : W0.cell? ⟨P, 6, none⟩ = some (.string a.sc) := BxC.cell HP0.out 6
 have p7 : W0.cell? ⟨P, 7, none⟩ = some (.string a.sr) := BxC.cell HP0.out 7
 have q0 : W0.cell? ⟨P + 1, 0, none⟩ = some (.int .i64 b.fr) := BxC.cell HQ0.out 0
 have q1 : W0.cell? ⟨P + 1, 1, none⟩ = some (.int .i64 b.to) := BxC.cell HQ0.out 1
 have q2 : W0.cell? ⟨P + 1, 2, none⟩ = some (.slice A3 n3 c3) := BxC.cell HQ0.out 2
 have q3 : W0.cell? ⟨P + 1, 3, none⟩ = some (.slice A4 n4 c4) := BxC.cell HQ0.out 3
 have q4 : W0.cell? ⟨P + 1, 4, none⟩ = some (.string b.be) := BxC.cell HQ0.out 4
 have q5 : W0.cell? ⟨P + 1, 5, none⟩ = some (.string b.af) := BxC.cell HQ0.out 5
 have q6 : W0.cell? ⟨P + 1, 6, none⟩ = some (.string b.sc) := BxC.cell HQ0.out 6
 have q7 : W0.cell? ⟨P + 1, 7, none⟩ = some (.string b.sr) := BxC.cell HQ0.out 7
 obtain ⟨WB, hWB⟩ : ∃ WB, W0.alloc (.cells #[.int .i64 a.fr, .int .i64 a.to, .slice A1 n1 c1, .slice A2 n2 c2, .string a.be, .string a.af, .string a.sc, .string a.sr, .int .i64 b.fr, .int .i64 b.to, .slice A3 n3 c3, .slice A4 n4 c4, .string b.be, .string b.af, .string b.sc, .string b.sr] 31) = WB := ⟨_, rfl⟩
 obtain ⟨LB, hLB⟩ : ∃ LB, W0.heap.size = LB := ⟨_, rfl⟩
 have HLB := Hq (show BxC WB LB #[.int .i64 a.fr, .int .i64 a.to, .slice A1 n1 c1, .slice A2 n2 c2, .string a.be, .string a.af, .string a.sc, .string a.sr, .int .i64 b.fr, .int .i64 b.to, .slice A3 n3 c3, .slice A4 n4 c4, .string b.be, .string b.af, .string b.sc, .string b.sr] 31 from by rw [← hWB, ← hLB]; exact BxC.new _ _ _)
 have HBB0 := Hq (show Below W0.heap.size W0 WB from by rw [← hWB]; exact (Below.refl _ _).alloc (Nat.le_refl _) _)
 have HPE := Hq hP
 clear h1 h2 h3 h4 za zb
 unfold Dl.arr Dl.zero at hW0
 unfold Dl.arr
 go_enter Tryz.func11, Tryz.ntmps11
 go_wp2
 clear hWB hW0 p0 p1 p2 p3 p4 p5 p6 p7 q0 q1 q2 q3 q4 q5 q6 q7
 go_loopw [24] (fun i wr => ∃ j : Nat, j ≤ 2 ∧ i = .int .i64 j ∧ (1 ≤ j → a.msg.2 = 0) ∧ (2 ≤ j → b.msg.2 = 0) ∧ Below WB.heap.size WB wr) (fun i _ => 2 - (intOf i).toNat)
 case atStart => exact ⟨0, by omega, rfl, (fun h => by omega), (fun h => by omega), Below.refl _ _⟩
 case round =>
  obtain ⟨j, hj, rfl, he1, he2, hbb⟩ := hrel
  have HB := Hq hbb
  have HE1 := Hq he1
  have HE2 := Hq he2
  have HBW := Hq (HBB0.out.trans (hbb.mono HBB0.out.size))
  have HLR := Hq (HLB.out.next hbb)
  clear hbb he1 he2
  match j, hj with
  | 0, _ =>
   simp only [Int.natCast_zero]
   have x0 : wr.cell? ⟨LB, 0, none⟩ = some (.int .i64 a.fr) := BxC.cell HLR.out 0
   have x1 : wr.cell? ⟨LB, 1, none⟩ = some (.int .i64 a.to) := BxC.cell HLR.out 1
   have x2 : wr.cell? ⟨LB, 2, none⟩ = some (.slice A1 n1 c1) := BxC.cell HLR.out 2
   have x3 : wr.cell? ⟨LB, 3, none⟩ = some (.slice A2 n2 c2) := BxC.cell HLR.out 3
   have x4 : wr.cell? ⟨LB, 4, none⟩ = some (.string a.be) := BxC.cell HLR.out 4
   have x5 : wr.cell? ⟨LB, 5, none⟩ = some (.string a.af) := BxC.cell HLR.out 5
   have x6 : wr.cell? ⟨LB, 6, none⟩ = some (.string a.sc) := BxC.cell HLR.out 6
   have x7 : wr.cell? ⟨LB, 7, none⟩ = some (.string a.sr) := BxC.cell HLR.out 7
   go_wp2_with fail
   refine (show Calls _ _ _ _ _ from ep_Message a A1 A2 n1 c1 n2 c2 (wr.alloc (.cells #[.int .i64 a.fr, .int .i64 a.to, .slice A1 n1 c1, .slice A2 n2 c2, .string a.be, .string a.af, .string a.sc, .string a.sr] 31)) (H1.out.kept (HBW.out.trans ((Below.refl wr.heap.size wr).alloc (Nat.le_refl _) _ |>.mono HBW.out.size)) (Nat.le_refl _)) (H2.out.kept (HBW.out.trans ((Below.refl wr.heap.size wr).alloc (Nat.le_refl _) _ |>.mono HBW.out.size)) (Nat.le_refl _)) g1 g2 ZA.out).mono ?_
   rintro e wm ⟨rfl, hb⟩
   have HBM := Hq (HB.out.trans ((((Below.refl wr.heap.size wr).alloc (Nat.le_refl _) (.cells #[.int .i64 a.fr, .int .i64 a.to, .slice A1 n1 c1, .slice A2 n2 c2, .string a.be, .string a.af, .string a.sc, .string a.sr] 31)).trans (hb.mono (by simp))).mono HB.out.size))
   clear hb x0 x1 x2 x3 x4 x5 x6 x7
   obtain ⟨r1, e1, hr⟩ : ∃ r1 e1, a.msg = (r1, e1) := ⟨_, _, rfl⟩
   rw [hr]
   by_cases he : e1 = 0
   · subst he
     have HEJ := Hq (show a.msg.2 = 0 from by rw [hr])
     clear hr
     go_wp2
     go_roundw
     case rel => exact ⟨1, by omega, by go_num, (fun _ => HEJ.out), (fun h => by omega), HBM.out⟩
     case measure => simp [intOf]
   · have hd : (e1 != 0) = true := by simpa using he
     have HJ := Hq (show jn a b = (Dl.zero, e1) from by unfold jn; rw [if_pos (by rw [hr]; exact he), hr])
     have HRB := Hq (HR0.out.next (HBB0.out.trans (HBM.out.mono HBB0.out.size)))
     have HBB := Hq (HB0.out.trans ((HBB0.out.trans (HBM.out.mono HBB0.out.size)).mono (by have := HW0.out; omega)))
     go_wp2_with (refine wpList_store_rowTo rfl 31 _ _ rfl rfl (P + 1 + 1) (Dl.zero.arr (.slice none 0 0) (.slice none 0 0)) rfl rfl 31 (Dl.zero.arr (.slice none 0 0) (.slice none 0 0)) HRB.out (by kernel_rfl) rfl (Dl.zero.one _ _ _ _ _ _) ?_)
     have HRZ := Hq (show BxC _ (P + 1 + 1) (Dl.zero.arr (.slice none 0 0) (.slice none 0 0)) 31 from setRow_heap _ _ _ (Dl.zero.arr (.slice none 0 0) (.slice none 0 0)) _ _ HRB.out)
     have HBZ := Hq (below_setRow HBB.out (g := P + 1 + 1) (by omega) (Dl.zero.arr (.slice none 0 0) (.slice none 0 0)))
     go_wp2
     have y0 : (wm.setRow (P + 1 + 1) (Dl.zero.arr (.slice none 0 0) (.slice none 0 0))).cell? ⟨P + 1 + 1, 0, none⟩ = some (.int .i64 0) := HRZ.out.cell 0
     have y1 : (wm.setRow (P + 1 + 1) (Dl.zero.arr (.slice none 0 0) (.slice none 0 0))).cell? ⟨P + 1 + 1, 1, none⟩ = some (.int .i64 0) := HRZ.out.cell 1
     have y2 : (wm.setRow (P + 1 + 1) (Dl.zero.arr (.slice none 0 0) (.slice none 0 0))).cell? ⟨P + 1 + 1, 2, none⟩ = some (.slice none 0 0) := HRZ.out.cell 2
     have y3 : (wm.setRow (P + 1 + 1) (Dl.zero.arr (.slice none 0 0) (.slice none 0 0))).cell? ⟨P + 1 + 1, 3, none⟩ = some (.slice none 0 0) := HRZ.out.cell 3
     have y4 : (wm.setRow (P + 1 + 1) (Dl.zero.arr (.slice none 0 0) (.slice none 0 0))).cell? ⟨P + 1 + 1, 4, none⟩ = some (.string ⟨#[]⟩) := HRZ.out.cell 4
     have y5 : (wm.setRow (P + 1 + 1) (Dl.zero.arr (.slice none 0 0) (.slice none 0 0))).cell? ⟨P + 1 + 1, 5, none⟩ = some (.string ⟨#[]⟩) := HRZ.out.cell 5
     have y6 : (wm.setRow (P + 1 + 1) (Dl.zero.arr (.slice none 0 0) (.slice none 0 0))).cell? ⟨P + 1 + 1, 6, none⟩ = some (.string ⟨#[]⟩) := HRZ.out.cell 6
     have y7 : (wm.setRow (P + 1 + 1) (Dl.zero.arr (.slice none 0 0) (.slice none 0 0))).cell? ⟨P + 1 + 1, 7, none⟩ = some (.string ⟨#[]⟩) := HRZ.out.cell 7
     exact bodyPost_ret (v := .tuple #[.agg #[.int .i64 0, .int .i64 0, .slice none 0 0, .slice none 0 0, .string ⟨#[]⟩, .string ⟨#[]⟩, .string ⟨#[]⟩, .string ⟨#[]⟩], .int .i64 e1]) (by simp [results, Tryz.results11, go_sem, y0, y1, y2, y3, y4, y5, y6, y7]) rfl ⟨none, 0, 0, none, 0, 0, by rw [HJ.out]; rfl, by rw [HJ.out]; exact SlN.nil _ _ (by omega) _, by rw [HJ.out]; exact SlN.nil _ _ (by omega) _, (fun h0 => by simp at h0), (fun h0 => by simp at h0), by rw [HPE.out]; exact HBZ.out⟩
  | 1, _ =>
   simp only [Int.natCast_one]
   have x0 : wr.cell? ⟨LB, 8, none⟩ = some (.int .i64 b.fr) := BxC.cell HLR.out 8
   have x1 : wr.cell? ⟨LB, 9, none⟩ = some (.int .i64 b.to) := BxC.cell HLR.out 9
   have x2 : wr.cell? ⟨LB, 10, none⟩ = some (.slice A3 n3 c3) := BxC.cell HLR.out 10
   have x3 : wr.cell? ⟨LB, 11, none⟩ = some (.slice A4 n4 c4) := BxC.cell HLR.out 11
   have x4 : wr.cell? ⟨LB, 12, none⟩ = some (.string b.be) := BxC.cell HLR.out 12
   have x5 : wr.cell? ⟨LB, 13, none⟩ = some (.string b.af) := BxC.cell HLR.out 13
   have x6 : wr.cell? ⟨LB, 14, none⟩ = some (.string b.sc) := BxC.cell HLR.out 14
   have x7 : wr.cell? ⟨LB, 15, none⟩ = some (.string b.sr) := BxC.cell HLR.out 15
   go_wp2_with fail
   refine (show Calls _ _ _ _ _ from ep_Message b A3 A4 n3 c3 n4 c4 (wr.alloc (.cells #[.int .i64 b.fr, .int .i64 b.to, .slice A3 n3 c3, .slice A4 n4 c4, .string b.be, .string b.af, .string b.sc, .string b.sr] 31)) (H3.out.kept (HBW.out.trans ((Below.refl wr.heap.size wr).alloc (Nat.le_refl _) _ |>.mono HBW.out.size)) (Nat.le_refl _)) (H4.out.kept (HBW.out.trans ((Below.refl wr.heap.size wr).alloc (Nat.le_refl _) _ |>.mono HBW.out.size)) (Nat.le_refl _)) g3 g4 ZB.out).mono ?_
   rintro e wm ⟨rfl, hb⟩
   have HBM := Hq (HB.out.trans ((((Below.refl wr.heap.size wr).alloc (Nat.le_refl _) (.cells #[.int .i64 b.fr, .int .i64 b.to, .slice A3 n3 c3, .slice A4 n4 c4, .string b.be, .string b.af, .string b.sc, .string b.sr] 31)).trans (hb.mono (by simp))).mono HB.out.size))
   clear hb x0 x1 x2 x3 x4 x5 x6 x7
   obtain ⟨r1, e1, hr⟩ : ∃ r1 e1, b.msg = (r1, e1) := ⟨_, _, rfl⟩
   rw [hr]
   by_cases he : e1 = 0
   · subst he
     have HEJ := Hq (show b.msg.2 = 0 from by rw [hr])
     clear hr
     go_wp2
     go_roundw
     case rel => exact ⟨2, by omega, by go_num, (fun _ => HE1.out (by omega)), (fun _ => HEJ.out), HBM.out⟩
     case measure => simp [intOf]
   · have hd : (e1 != 0) = true := by simpa using he
     have HJ := Hq (show jn a b = (Dl.zero, e1) from by unfold jn; rw [if_neg (by rw [HE1.out (by omega)]; simp), if_pos (by rw [hr]; exact he), hr])
     have HRB := Hq (HR0.out.next (HBB0.out.trans (HBM.out.mono HBB0.out.size)))
     have HBB := Hq (HB0.out.trans ((HBB0.out.trans (HBM.out.mono HBB0.out.size)).mono (by have := HW0.out; omega)))
     go_wp2_with (refine wpList_store_rowTo rfl 31 _ _ rfl rfl (P + 1 + 1) (Dl.zero.arr (.slice none 0 0) (.slice none 0 0)) rfl rfl 31 (Dl.zero.arr (.slice none 0 0) (.slice none 0 0)) HRB.out (by kernel_rfl) rfl (Dl.zero.one _ _ _ _ _ _) ?_)
     have HRZ := Hq (show BxC _ (P + 1 + 1) (Dl.zero.arr (.slice none 0 0) (.slice none 0 0)) 31 from setRow_heap _ _ _ (Dl.zero.arr (.slice none 0 0) (.slice none 0 0)) _ _ HRB.out)
     have HBZ := Hq (below_setRow HBB.out (g := P + 1 + 1) (by omega) (Dl.zero.arr (.slice none 0 0) (.slice none 0 0)))
     go_wp2
     have y0 : (wm.setRow (P + 1 + 1) (Dl.zero.arr (.slice none 0 0) (.slice none 0 0))).cell? ⟨P + 1 + 1, 0, none⟩ = some (.int .i64 0) := HRZ.out.cell 0
     have y1 : (wm.setRow (P + 1 + 1) (Dl.zero.arr (.slice none 0 0) (.slice none 0 0))).cell? ⟨P + 1 + 1, 1, none⟩ = some (.int .i64 0) := HRZ.out.cell 1
     have y2 : (wm.setRow (P + 1 + 1) (Dl.zero.arr (.slice none 0 0) (.slice none 0 0))).cell? ⟨P + 1 + 1, 2, none⟩ = some (.slice none 0 0) := HRZ.out.cell 2
     have y3 : (wm.setRow (P + 1 + 1) (Dl.zero.arr (.slice none 0 0) (.slice none 0 0))).cell? ⟨P + 1 + 1, 3, none⟩ = some (.slice none 0 0) := HRZ.out.cell 3
     have y4 : (wm.setRow (P + 1 + 1) (Dl.zero.arr (.slice none 0 0) (.slice none 0 0))).cell? ⟨P + 1 + 1, 4, none⟩ = some (.string ⟨#[]⟩) := HRZ.out.cell 4
     have y5 : (wm.setRow (P + 1 + 1) (Dl.zero.arr (.slice none 0 0) (.slice none 0 0))).cell? ⟨P + 1 + 1, 5, none⟩ = some (.string ⟨#[]⟩) := HRZ.out.cell 5
     have y6 : (wm.setRow (P + 1 + 1) (Dl.zero.arr (.slice none 0 0) (.slice none 0 0))).cell? ⟨P + 1 + 1, 6, none⟩ = some (.string ⟨#[]⟩) := HRZ.out.cell 6
     have y7 : (wm.setRow (P + 1 + 1) (Dl.zero.arr (.slice none 0 0) (.slice none 0 0))).cell? ⟨P + 1 + 1, 7, none⟩ = some (.string ⟨#[]⟩) := HRZ.out.cell 7
     exact bodyPost_ret (v := .tuple #[.agg #[.int .i64 0, .int .i64 0, .slice none 0 0, .slice none 0 0, .string ⟨#[]⟩, .string ⟨#[]⟩, .string ⟨#[]⟩, .string ⟨#[]⟩], .int .i64 e1]) (by simp [results, Tryz.results11, go_sem, y0, y1, y2, y3, y4, y5, y6, y7]) rfl ⟨none, 0, 0, none, 0, 0, by rw [HJ.out]; rfl, by rw [HJ.out]; exact SlN.nil _ _ (by omega) _, by rw [HJ.out]; exact SlN.nil _ _ (by omega) _, (fun h0 => by simp at h0), (fun h0 => by simp at h0), by rw [HPE.out]; exact HBZ.out⟩
  | 2, _ =>
   rw [show ((2 : Nat) : Int) = 2 from rfl]
   obtain ⟨w2, hw2⟩ : ∃ w2, w2 = wr := ⟨_, rfl⟩
   subst hw2
   have HEA := Hq (HE1.out (by omega))
   have HEB := Hq (HE2.out (by omega))
   have HP2 := Hq (HP0.out.next HBW.out)
   have HQ2 := Hq (HQ0.out.next HBW.out)
   have HR2 := Hq (HR0.out.next HBW.out)
   have HB2 := Hq (HB0.out.trans (HBW.out.mono (by have := HW0.out; omega)))
   have H12 := Hq (H1.out.kept HBW.out (Nat.le_refl _))
   have H22 := Hq (H2.out.kept HBW.out (Nat.le_refl _))
   have H32 := Hq (H3.out.kept HBW.out (Nat.le_refl _))
   have H42 := Hq (H4.out.kept HBW.out (Nat.le_refl _))
   clear HE1 HE2
   have p1 : w2.cell? ⟨P, 1, none⟩ = some (.int .i64 a.to) := HP2.out.cell 1
   have p5 : w2.cell? ⟨P, 5, none⟩ = some (.string a.af) := HP2.out.cell 5
   have q0 : w2.cell? ⟨P + 1, 0, none⟩ = some (.int .i64 b.fr) := HQ2.out.cell 0
   have q4 : w2.cell? ⟨P + 1, 4, none⟩ = some (.string b.be) := HQ2.out.cell 4
   have HRB := Hq HR2.out
   have HBB := Hq HB2.out
   by_cases ht : a.to = b.fr
   · have hd : (a.to != b.fr) = false := by simpa using ht
     have HT := Hq ht
     clear ht
     by_cases hs : a.af = b.be
     · have hs2 : (a.af.toList == b.be.toList) = true := by rw [hs]; simp
       have HJL := Hq (show clash a b = true → jn a b = (Dl.zero, 8) from fun h => by unfold jn; rw [if_neg (by rw [HEA.out]; simp), if_neg (by rw [HEB.out]; simp), if_neg (by rw [HT.out]; simp), if_neg (by rw [hs]; simp), if_pos h])
       have HJN := Hq (show clash a b = false → jn a b = (⟨a.fr, b.to, mrg (memB b.rm) (memB a.rm) a.ad b.ad, mrg (memB b.ad) (memB a.ad) a.rm b.rm, a.be, b.af, ⟨#[]⟩, ⟨#[]⟩⟩, 0) from fun h => by unfold jn; rw [if_neg (by rw [HEA.out]; simp), if_neg (by rw [HEB.out]; simp), if_neg (by rw [HT.out]; simp), if_neg (by rw [hs]; simp), if_neg (by rw [h]; simp)])
       clear hs HRB HBB
       have hmm := @run_makeMap Tryz.prog
       obtain ⟨M, hM⟩ : ∃ M, w2.heap.size = M := ⟨_, rfl⟩
       obtain ⟨WM, hWM⟩ : ∃ WM, w2.alloc (.map #[] 0) = WM := ⟨_, rfl⟩
       obtain ⟨WL, hWL⟩ : ∃ WL, WM.alloc (.cells #[.int .i64 a.fr, .int .i64 a.to, .slice A1 n1 c1, .slice A2 n2 c2, .string a.be, .string a.af, .string a.sc, .string a.sr, .int .i64 b.fr, .int .i64 b.to, .slice A3 n3 c3, .slice A4 n4 c4, .string b.be, .string b.af, .string b.sc, .string b.sr] 31) = WL := ⟨_, rfl⟩
       have hMS : MS WM M [] (fun _ => 0) := by rw [← hWM, ← hM]; exact MS.made w2
       have hBM : Below w2.heap.size w2 WM := by rw [← hWM]; exact (Below.refl _ _).alloc (Nat.le_refl _) _
       have hWMs : WM.heap.size = M + 1 := by rw [← hWM, ← hM]; simp
       have hBL : Below WM.heap.size WM WL := by rw [← hWL]; exact (Below.refl _ _).alloc (Nat.le_refl _) _
       have HLL := Hq (show BxC WL (M + 1) #[.int .i64 a.fr, .int .i64 a.to, .slice A1 n1 c1, .slice A2 n2 c2, .string a.be, .string a.af, .string a.sc, .string a.sr, .int .i64 b.fr, .int .i64 b.to, .slice A3 n3 c3, .slice A4 n4 c4, .string b.be, .string b.af, .string b.sc, .string b.sr] 31 from by rw [← hWL, ← hWMs]; exact BxC.new _ _ _)
       have HMS := Hq (hMS.below hBL (Nat.le_refl _))
       have HWLS := Hq (show WL.heap.size = M + 2 from by rw [← hWL]; simp; omega)
       have hB2L : Below w2.heap.size w2 WL := hBM.trans (hBL.mono hBM.size)
       have HB2L := Hq hB2L
       have HM2 := Hq hM
       have hHP : BxC WM P _ _ := HP2.out.next hBM
       have hHQ : BxC WM (P + 1) _ _ := HQ2.out.next hBM
       have s0 : WM.cell? ⟨P, 0, none⟩ = some (.int .i64 a.fr) := BxC.cell hHP 0
       have s1 : WM.cell? ⟨P, 1, none⟩ = some (.int .i64 a.to) := BxC.cell hHP 1
       have s2 : WM.cell? ⟨P, 2, none⟩ = some (.slice A1 n1 c1) := BxC.cell hHP 2
       have s3 : WM.cell? ⟨P, 3, none⟩ = some (.slice A2 n2 c2) := BxC.cell hHP 3
       have s4 : WM.cell? ⟨P, 4, none⟩ = some (.string a.be) := BxC.cell hHP 4
       have s5 : WM.cell? ⟨P, 5, none⟩ = some (.string a.af) := BxC.cell hHP 5
       have s6 : WM.cell? ⟨P, 6, none⟩ = some (.string a.sc) := BxC.cell hHP 6
       have s7 : WM.cell? ⟨P, 7, none⟩ = some (.string a.sr) := BxC.cell hHP 7
       have t0 : WM.cell? ⟨P + 1, 0, none⟩ = some (.int .i64 b.fr) := BxC.cell hHQ 0
       have t1 : WM.cell? ⟨P + 1, 1, none⟩ = some (.int .i64 b.to) := BxC.cell hHQ 1
       have t2 : WM.cell? ⟨P + 1, 2, none⟩ = some (.slice A3 n3 c3) := BxC.cell hHQ 2
       have t3 : WM.cell? ⟨P + 1, 3, none⟩ = some (.slice A4 n4 c4) := BxC.cell hHQ 3
       have t4 : WM.cell? ⟨P + 1, 4, none⟩ = some (.string b.be) := BxC.cell hHQ 4
       have t5 : WM.cell? ⟨P + 1, 5, none⟩ = some (.string b.af) := BxC.cell hHQ 5
       have t6 : WM.cell? ⟨P + 1, 6, none⟩ = some (.string b.sc) := BxC.cell hHQ 6
       have t7 : WM.cell? ⟨P + 1, 7, none⟩ = some (.string b.sr) := BxC.cell hHQ 7
       clear hMS hBM hBL hB2L hHP hHQ
       go_wp2
       have H1L := Hq (H12.out.kept HB2L.out (Nat.le_refl _))
       have H2L := Hq (H22.out.kept HB2L.out (Nat.le_refl _))
       have H3L := Hq (H32.out.kept HB2L.out (Nat.le_refl _))
       have H4L := Hq (H42.out.kept HB2L.out (Nat.le_refl _))
       have F1 := Hq (show 0 < n1 → ∀ ad, A1 = some ad → ad.block < M from fun h0 ad he => by have := HM2.out; subst he; rw [← this]; exact H12.out.lt h0)
       have F2 := Hq (show 0 < n2 → ∀ ad, A2 = some ad → ad.block < M from fun h0 ad he => by have := HM2.out; subst he; rw [← this]; exact H22.out.lt h0)
       have F3 := Hq (show 0 < n3 → ∀ ad, A3 = some ad → ad.block < M from fun h0 ad he => by have := HM2.out; subst he; rw [← this]; exact H32.out.lt h0)
       have F4 := Hq (show 0 < n4 → ∀ ad, A4 = some ad → ad.block < M from fun h0 ad he => by have := HM2.out; subst he; rw [← this]; exact H42.out.lt h0)
       clear p1 p5 q0 q4 s0 s1 s2 s3 s4 s5 s6 s7 t0 t1 t2 t3 t4 t5 t6 t7 hmm hWM hWL hWMs hM
       go_loopw [55] (fun i wr => ∃ j : Nat, j ≤ 2 ∧ i = .int .i64 j ∧ MS wr M (KK a b j) (GG a b j) ∧ Oth M WL wr) (fun i _ => 2 - (intOf i).toNat)
       case atStart => exact ⟨0, by omega, rfl, HMS.out, Oth.refl _ _⟩
       case round =>
        obtain ⟨j, hj, rfl, hms, hot⟩ := hrel
        have HOT := Hq hot
        have HLR := Hq (hot.box HLL.out (by omega))
        clear hot
        match j, hj with
        | 0, _ =>
         simp only [Int.natCast_zero]
         obtain ⟨K0, hK0⟩ : ∃ K0, KK a b 0 = K0 := ⟨_, rfl⟩
         obtain ⟨g0, hg0⟩ : ∃ g0, GG a b 0 = g0 := ⟨_, rfl⟩
         rw [hK0, hg0] at hms
         have HMJ := Hq hms
         have HKL0 := Hq (show K0.length ≤ 1000000 from by rw [← hK0]; simp [KK])
         have HK0 := Hq hK0
         have HG0 := Hq hg0
         clear hms hK0 hg0
         have x0 : wr.cell? ⟨M + 1, 0, none⟩ = some (.int .i64 a.fr) := BxC.cell HLR.out 0
         have x1 : wr.cell? ⟨M + 1, 1, none⟩ = some (.int .i64 a.to) := BxC.cell HLR.out 1
         have x2 : wr.cell? ⟨M + 1, 2, none⟩ = some (.slice A1 n1 c1) := BxC.cell HLR.out 2
         have x3 : wr.cell? ⟨M + 1, 3, none⟩ = some (.slice A2 n2 c2) := BxC.cell HLR.out 3
         have x4 : wr.cell? ⟨M + 1, 4, none⟩ = some (.string a.be) := BxC.cell HLR.out 4
         have x5 : wr.cell? ⟨M + 1, 5, none⟩ = some (.string a.af) := BxC.cell HLR.out 5
         have x6 : wr.cell? ⟨M + 1, 6, none⟩ = some (.string a.sc) := BxC.cell HLR.out 6
         have x7 : wr.cell? ⟨M + 1, 7, none⟩ = some (.string a.sr) := BxC.cell HLR.out 7
         obtain ⟨WX, hWX⟩ : ∃ WX, wr.alloc (.cells #[.int .i64 a.fr, .int .i64 a.to, .slice A1 n1 c1, .slice A2 n2 c2, .string a.be, .string a.af, .string a.sc, .string a.sr] 31) = WX := ⟨_, rfl⟩
         have HX := Hq (show BxC WX wr.heap.size #[.int .i64 a.fr, .int .i64 a.to, .slice A1 n1 c1, .slice A2 n2 c2, .string a.be, .string a.af, .string a.sc, .string a.sr] 31 from by rw [← hWX]; exact BxC.new _ _ _)
         have HRX := Hq (show Oth M wr WX from by rw [← hWX]; exact Oth.alloc _ _)
         have HOWX := Hq (HOT.out.trans HRX.out)
         have HMK0 := Hq (show MS WX M K0 g0 from HMJ.out.below (show Below wr.heap.size wr WX from by rw [← hWX]; exact (Below.refl _ _).alloc (Nat.le_refl _) _) (Nat.le_refl _))
         have HOK0 := Hq (Oth.refl M WX)
         have HBK0 := Hq HMJ.out.2
         have HWS := Hq (show M < wr.heap.size from by have := HOT.out.size; have := HWLS.out; omega)
         have x2' : WX.cell? ⟨wr.heap.size, 2, none⟩ = some (.slice A1 n1 c1) := HX.out.cell 2
         obtain ⟨BX, hBX⟩ : ∃ BX, wr.heap.size = BX := ⟨_, rfl⟩
         rw [hBX] at HX HWS x2'
         have HBX := Hq hBX
         go_wp2
         clear hWX x0 x1 x2 x3 x4 x5 x6 x7 x2' hBX
         go_loopw [62] (fun i wr => ∃ j : Nat, j ≤ n1 ∧ i = .int .i64 j ∧ MS wr M (K0 ++ a.ad.take j) (gad (1) g0 (a.ad.take j)) ∧ Oth M WX wr) (fun i _ => n1 - (intOf i).toNat)
         case atStart => exact ⟨0, Nat.zero_le _, rfl, ms_start _ HMK0.out, HOK0.out⟩
         case round =>
          obtain ⟨j, hj, rfl, hms, hot⟩ := hrel
          have HMJ := Hq hms
          have HOT := Hq hot
          clear hms hot
          by_cases hlt : j < n1
          · obtain ⟨y, he⟩ : ∃ y, a.ad[j]? = some y := ⟨_, List.getElem?_eq_getElem (by rw [L1.out]; exact hlt)⟩
            obtain ⟨bb, oo, rfl, e1⟩ := (H1L.out.oth F1.out (HOWX.out.trans HOT.out)).cell he
            have HY := Hq he
            have HSZ := Hq (show y.size ≤ maxLen from (fun y hy => Nat.le_trans (ZA.out y (by unfold Dl.str; simp [hy])) (by unfold maxLen; omega)) y (List.mem_of_getElem? he))
            obtain ⟨⟨D, hown, hf⟩, hbd⟩ := HMJ.out
            have HOWN := Hq hown
            have HF := Hq hf
            obtain ⟨G, hG⟩ : ∃ G, gad (1) g0 (a.ad.take j) y = G := ⟨_, rfl⟩
            have hkl : (K0 ++ a.ad.take j).length ≤ 2000000 := by rw [List.length_append]; have := HKL0.out; have : (a.ad.take j).length ≤ j := by simp; omega
                                                                  omega
            have hg1 : -2000000 ≤ G := by rw [← hG]; have := (hbd y).1; omega
            have hg2 : G ≤ 2000000 := by rw [← hG]; have := (hbd y).2; omega
            have HBD := Hq hbd
            have HG := Hq hG
            have HKN := Hq hkl
            clear he hown hf hbd hG hkl
            go_wp2_with (at_lookup; refine wpList_lookup_own_int _ rfl _ _ 53 rfl 22 3 .i64 lawN Tryz.underlying53 Tryz.underlying3 (zeroI _) M (K0 ++ a.ad.take j).length D rfl HOWN.out (.string y) (.string y.data.toList) rfl (keyN HSZ.out) ?_)
            intro c hat hwc
            obtain rfl : c = G := by
             rw [(HF.out y).2, HG.out] at hat
             injection hat with h1
             injection h1 with _ h2
             exact h2.symm
            clear hat hwc
            go_wp2_with (at_mapUpdate; go_must (refine wpList_mapUpdate_own _ rfl _ _ _ 53 rfl 22 3 lawN Tryz.underlying53 _ M (K0 ++ a.ad.take j).length D rfl HOWN.out (by have := HKN.out; unfold maxLen; omega) (.string y) (.int .i64 (c + 1)) (.string y.data.toList) rfl rfl (keyN HSZ.out) (.lit (.int .i64 (c + 1))) [] (plainElem_int Tryz.underlying3 (wfZ (by omega) (by omega))) ?_))
            intro w3 hown3 hgrow3
            have hmz := mapZ_put HF.out HOWN.out.isMap hown3
            have HM3 := Hq (show MS w3 M (K0 ++ a.ad.take (j + 1)) (gad (1) g0 (a.ad.take (j + 1))) from ⟨by
             rw [← gad_step (1) g0 HY.out, HG.out, List.take_add_one, HY.out, Option.toList_some, ← List.append_assoc]
             exact hmz.congr (by simp; omega) rfl (by funext u; rfl), gad_bound (by decide) HBK0.out⟩)
            have HO3 := Hq (HOT.out.grown hgrow3 (fun k hk => .inr (by cases hk; rfl)))
            clear hown3 hgrow3 hmz
            go_wp2
            go_roundw
            case rel => exact ⟨j + 1, by omega, by go_num, HM3.out, HO3.out⟩
            case measure => simp [intOf]; omega
          · have hjn : n1 = j := by omega
            subst hjn
            have HMF := Hq (show MS wr M (K0 ++ a.ad) (gad (1) g0 a.ad) from by have := HMJ.out; rwa [List.take_of_length_le (Nat.le_of_eq L1.out)] at this)
            clear hlt hj HMJ
            have y3 : wr.cell? ⟨BX, 3, none⟩ = some (.slice A2 n2 c2) := (HOT.out.box HX.out (by have := HWS.out; omega)).cell 3
            obtain ⟨K1, hK1⟩ : ∃ K1, K0 ++ a.ad = K1 := ⟨_, rfl⟩
            obtain ⟨g1', hg1⟩ : ∃ g1', gad 1 g0 a.ad = g1' := ⟨_, rfl⟩
            rw [hK1, hg1] at HMF
            have HMK1 := Hq HMF.out
            have HOK1 := Hq HOT.out
            have HBK1 := Hq HMF.out.2
            have HKL1 := Hq (show K1.length ≤ 1400000 from by rw [← hK1, List.length_append]; have := HKL0.out; have := L1.out; omega)
            have HK1 := Hq hK1
            have HG1 := Hq hg1
            clear hK1 hg1 HMF HOT
            go_wp2
            clear y3
            go_loopw [74] (fun i wr => ∃ j : Nat, j ≤ n2 ∧ i = .int .i64 j ∧ MS wr M (K1 ++ a.rm.take j) (gad (-1) g1' (a.rm.take j)) ∧ Oth M WX wr) (fun i _ => n2 - (intOf i).toNat)
            case atStart => exact ⟨0, Nat.zero_le _, rfl, ms_start _ HMK1.out, HOK1.out⟩
            case round =>
             obtain ⟨j, hj, rfl, hms, hot⟩ := hrel
             have HMJ := Hq hms
             have HOT := Hq hot
             clear hms hot
             by_cases hlt : j < n2
             · obtain ⟨y, he⟩ : ∃ y, a.rm[j]? = some y := ⟨_, List.getElem?_eq_getElem (by rw [L2.out]; exact hlt)⟩
               obtain ⟨bb, oo, rfl, e1⟩ := (H2L.out.oth F2.out (HOWX.out.trans HOT.out)).cell he
               have HY := Hq he
               have HSZ := Hq (show y.size ≤ maxLen from (fun y hy => Nat.le_trans (ZA.out y (by unfold Dl.str; simp [hy])) (by unfold maxLen; omega)) y (List.mem_of_getElem? he))
               obtain ⟨⟨D, hown, hf⟩, hbd⟩ := HMJ.out
               have HOWN := Hq hown
               have HF := Hq hf
               obtain ⟨G, hG⟩ : ∃ G, gad (-1) g1' (a.rm.take j) y = G := ⟨_, rfl⟩
               have hkl : (K1 ++ a.rm.take j).length ≤ 2000000 := by rw [List.length_append]; have := HKL1.out; have : (a.rm.take j).length ≤ j := by simp; omega
                                                                     omega
               have hg1 : -2000000 ≤ G := by rw [← hG]; have := (hbd y).1; omega
               have hg2 : G ≤ 2000000 := by rw [← hG]; have := (hbd y).2; omega
               have HBD := Hq hbd
               have HG := Hq hG
               have HKN := Hq hkl
               clear he hown hf hbd hG hkl
               go_wp2_with (at_lookup; refine wpList_lookup_own_int _ rfl _ _ 53 rfl 22 3 .i64 lawN Tryz.underlying53 Tryz.underlying3 (zeroI _) M (K1 ++ a.rm.take j).length D rfl HOWN.out (.string y) (.string y.data.toList) rfl (keyN HSZ.out) ?_)
               intro c hat hwc
               obtain rfl : c = G := by
                rw [(HF.out y).2, HG.out] at hat
                injection hat with h1
                injection h1 with _ h2
                exact h2.symm
               clear hat hwc
               go_wp2_with (at_mapUpdate; go_must (refine wpList_mapUpdate_own _ rfl _ _ _ 53 rfl 22 3 lawN Tryz.underlying53 _ M (K1 ++ a.rm.take j).length D rfl HOWN.out (by have := HKN.out; unfold maxLen; omega) (.string y) (.int .i64 (c - 1)) (.string y.data.toList) rfl rfl (keyN HSZ.out) (.lit (.int .i64 (c - 1))) [] (plainElem_int Tryz.underlying3 (wfZ (by omega) (by omega))) ?_))
               intro w3 hown3 hgrow3
               have hmz := mapZ_put HF.out HOWN.out.isMap hown3
               have HM3 := Hq (show MS w3 M (K1 ++ a.rm.take (j + 1)) (gad (-1) g1' (a.rm.take (j + 1))) from ⟨by
                rw [← gad_step (-1) g1' HY.out, HG.out, List.take_add_one, HY.out, Option.toList_some, ← List.append_assoc]
                exact hmz.congr (by simp; omega) rfl (by funext u; rfl), gad_bound (by decide) HBK1.out⟩)
               have HO3 := Hq (HOT.out.grown hgrow3 (fun k hk => .inr (by cases hk; rfl)))
               clear hown3 hgrow3 hmz
               go_wp2
               go_roundw
               case rel => exact ⟨j + 1, by omega, by go_num, HM3.out, HO3.out⟩
               case measure => simp [intOf]; omega
             · have hjn : n2 = j := by omega
               subst hjn
               have HMF := Hq (show MS wr M (K1 ++ a.rm) (gad (-1) g1' a.rm) from by have := HMJ.out; rwa [List.take_of_length_le (Nat.le_of_eq L2.out)] at this)
               clear hlt hj HMJ
               have HMN := Hq (show MS wr M (KK a b 1) (GG a b 1) from by
                have h := HMF.out
                rw [← HK1.out, ← HG1.out, ← HK0.out, ← HG0.out] at h
                exact h)
               have HON := Hq (HOWX.out.trans HOT.out)
               clear HMF HOT
               go_wp2
               go_roundw
               case rel => exact ⟨1, by omega, by go_num, HMN.out, HON.out⟩
               case measure => simp [intOf]
        | 1, _ =>
         simp only [Int.natCast_one]
         obtain ⟨K0, hK0⟩ : ∃ K0, KK a b 1 = K0 := ⟨_, rfl⟩
         obtain ⟨g0, hg0⟩ : ∃ g0, GG a b 1 = g0 := ⟨_, rfl⟩
         rw [hK0, hg0] at hms
         have HMJ := Hq hms
         have HKL0 := Hq (show K0.length ≤ 1000000 from by rw [← hK0]; simp [KK]; have := L1.out; have := L2.out; omega)
         have HK0 := Hq hK0
         have HG0 := Hq hg0
         clear hms hK0 hg0
         have x0 : wr.cell? ⟨M + 1, 8, none⟩ = some (.int .i64 b.fr) := BxC.cell HLR.out 8
         have x1 : wr.cell? ⟨M + 1, 9, none⟩ = some (.int .i64 b.to) := BxC.cell HLR.out 9
         have x2 : wr.cell? ⟨M + 1, 10, none⟩ = some (.slice A3 n3 c3) := BxC.cell HLR.out 10
         have x3 : wr.cell? ⟨M + 1, 11, none⟩ = some (.slice A4 n4 c4) := BxC.cell HLR.out 11
         have x4 : wr.cell? ⟨M + 1, 12, none⟩ = some (.string b.be) := BxC.cell HLR.out 12
         have x5 : wr.cell? ⟨M + 1, 13, none⟩ = some (.string b.af) := BxC.cell HLR.out 13
         have x6 : wr.cell? ⟨M + 1, 14, none⟩ = some (.string b.sc) := BxC.cell HLR.out 14
         have x7 : wr.cell? ⟨M + 1, 15, none⟩ = some (.string b.sr) := BxC.cell HLR.out 15
         obtain ⟨WX, hWX⟩ : ∃ WX, wr.alloc (.cells #[.int .i64 b.fr, .int .i64 b.to, .slice A3 n3 c3, .slice A4 n4 c4, .string b.be, .string b.af, .string b.sc, .string b.sr] 31) = WX := ⟨_, rfl⟩
         have HX := Hq (show BxC WX wr.heap.size #[.int .i64 b.fr, .int .i64 b.to, .slice A3 n3 c3, .slice A4 n4 c4, .string b.be, .string b.af, .string b.sc, .string b.sr] 31 from by rw [← hWX]; exact BxC.new _ _ _)
         have HRX := Hq (show Oth M wr WX from by rw [← hWX]; exact Oth.alloc _ _)
         have HOWX := Hq (HOT.out.trans HRX.out)
         have HMK0 := Hq (show MS WX M K0 g0 from HMJ.out.below (show Below wr.heap.size wr WX from by rw [← hWX]; exact (Below.refl _ _).alloc (Nat.le_refl _) _) (Nat.le_refl _))
         have HOK0 := Hq (Oth.refl M WX)
         have HBK0 := Hq HMJ.out.2
         have HWS := Hq (show M < wr.heap.size from by have := HOT.out.size; have := HWLS.out; omega)
         have x2' : WX.cell? ⟨wr.heap.size, 2, none⟩ = some (.slice A3 n3 c3) := HX.out.cell 2
         obtain ⟨BX, hBX⟩ : ∃ BX, wr.heap.size = BX := ⟨_, rfl⟩
         rw [hBX] at HX HWS x2'
         have HBX := Hq hBX
         go_wp2
         clear hWX x0 x1 x2 x3 x4 x5 x6 x7 x2' hBX
         go_loopw [62] (fun i wr => ∃ j : Nat, j ≤ n3 ∧ i = .int .i64 j ∧ MS wr M (K0 ++ b.ad.take j) (gad (1) g0 (b.ad.take j)) ∧ Oth M WX wr) (fun i _ => n3 - (intOf i).toNat)
         case atStart => exact ⟨0, Nat.zero_le _, rfl, ms_start _ HMK0.out, HOK0.out⟩
         case round =>
          obtain ⟨j, hj, rfl, hms, hot⟩ := hrel
          have HMJ := Hq hms
          have HOT := Hq hot
          clear hms hot
          by_cases hlt : j < n3
          · obtain ⟨y, he⟩ : ∃ y, b.ad[j]? = some y := ⟨_, List.getElem?_eq_getElem (by rw [L3.out]; exact hlt)⟩
            obtain ⟨bb, oo, rfl, e1⟩ := (H3L.out.oth F3.out (HOWX.out.trans HOT.out)).cell he
            have HY := Hq he
            have HSZ := Hq (show y.size ≤ maxLen from (fun y hy => Nat.le_trans (ZB.out y (by unfold Dl.str; simp [hy])) (by unfold maxLen; omega)) y (List.mem_of_getElem? he))
            obtain ⟨⟨D, hown, hf⟩, hbd⟩ := HMJ.out
            have HOWN := Hq hown
            have HF := Hq hf
            obtain ⟨G, hG⟩ : ∃ G, gad (1) g0 (b.ad.take j) y = G := ⟨_, rfl⟩
            have hkl : (K0 ++ b.ad.take j).length ≤ 2000000 := by rw [List.length_append]; have := HKL0.out; have : (b.ad.take j).length ≤ j := by simp; omega
                                                                  omega
            have hg1 : -2000000 ≤ G := by rw [← hG]; have := (hbd y).1; omega
            have hg2 : G ≤ 2000000 := by rw [← hG]; have := (hbd y).2; omega
            have HBD := Hq hbd
            have HG := Hq hG
            have HKN := Hq hkl
            clear he hown hf hbd hG hkl
            go_wp2_with (at_lookup; refine wpList_lookup_own_int _ rfl _ _ 53 rfl 22 3 .i64 lawN Tryz.underlying53 Tryz.underlying3 (zeroI _) M (K0 ++ b.ad.take j).length D rfl HOWN.out (.string y) (.string y.data.toList) rfl (keyN HSZ.out) ?_)
            intro c hat hwc
            obtain rfl : c = G := by
             rw [(HF.out y).2, HG.out] at hat
             injection hat with h1
             injection h1 with _ h2
             exact h2.symm
            clear hat hwc
            go_wp2_with (at_mapUpdate; go_must (refine wpList_mapUpdate_own _ rfl _ _ _ 53 rfl 22 3 lawN Tryz.underlying53 _ M (K0 ++ b.ad.take j).length D rfl HOWN.out (by have := HKN.out; unfold maxLen; omega) (.string y) (.int .i64 (c + 1)) (.string y.data.toList) rfl rfl (keyN HSZ.out) (.lit (.int .i64 (c + 1))) [] (plainElem_int Tryz.underlying3 (wfZ (by omega) (by omega))) ?_))
            intro w3 hown3 hgrow3
            have hmz := mapZ_put HF.out HOWN.out.isMap hown3
            have HM3 := Hq (show MS w3 M (K0 ++ b.ad.take (j + 1)) (gad (1) g0 (b.ad.take (j + 1))) from ⟨by
             rw [← gad_step (1) g0 HY.out, HG.out, List.take_add_one, HY.out, Option.toList_some, ← List.append_assoc]
             exact hmz.congr (by simp; omega) rfl (by funext u; rfl), gad_bound (by decide) HBK0.out⟩)
            have HO3 := Hq (HOT.out.grown hgrow3 (fun k hk => .inr (by cases hk; rfl)))
            clear hown3 hgrow3 hmz
            go_wp2
            go_roundw
            case rel => exact ⟨j + 1, by omega, by go_num, HM3.out, HO3.out⟩
            case measure => simp [intOf]; omega
          · have hjn : n3 = j := by omega
            subst hjn
            have HMF := Hq (show MS wr M (K0 ++ b.ad) (gad (1) g0 b.ad) from by have := HMJ.out; rwa [List.take_of_length_le (Nat.le_of_eq L3.out)] at this)
            clear hlt hj HMJ
            have y3 : wr.cell? ⟨BX, 3, none⟩ = some (.slice A4 n4 c4) := (HOT.out.box HX.out (by have := HWS.out; omega)).cell 3
            obtain ⟨K1, hK1⟩ : ∃ K1, K0 ++ b.ad = K1 := ⟨_, rfl⟩
            obtain ⟨g1', hg1⟩ : ∃ g1', gad 1 g0 b.ad = g1' := ⟨_, rfl⟩
            rw [hK1, hg1] at HMF
            have HMK1 := Hq HMF.out
            have HOK1 := Hq HOT.out
            have HBK1 := Hq HMF.out.2
            have HKL1 := Hq (show K1.length ≤ 1400000 from by rw [← hK1, List.length_append]; have := HKL0.out; have := L3.out; omega)
            have HK1 := Hq hK1
            have HG1 := Hq hg1
            clear hK1 hg1 HMF HOT
            go_wp2
            clear y3
            go_loopw [74] (fun i wr => ∃ j : Nat, j ≤ n4 ∧ i = .int .i64 j ∧ MS wr M (K1 ++ b.rm.take j) (gad (-1) g1' (b.rm.take j)) ∧ Oth M WX wr) (fun i _ => n4 - (intOf i).toNat)
            case atStart => exact ⟨0, Nat.zero_le _, rfl, ms_start _ HMK1.out, HOK1.out⟩
            case round =>
             obtain ⟨j, hj, rfl, hms, hot⟩ := hrel
             have HMJ := Hq hms
             have HOT := Hq hot
             clear hms hot
             by_cases hlt : j < n4
             · obtain ⟨y, he⟩ : ∃ y, b.rm[j]? = some y := ⟨_, List.getElem?_eq_getElem (by rw [L4.out]; exact hlt)⟩
               obtain ⟨bb, oo, rfl, e1⟩ := (H4L.out.oth F4.out (HOWX.out.trans HOT.out)).cell he
               have HY := Hq he
               have HSZ := Hq (show y.size ≤ maxLen from (fun y hy => Nat.le_trans (ZB.out y (by unfold Dl.str; simp [hy])) (by unfold maxLen; omega)) y (List.mem_of_getElem? he))
               obtain ⟨⟨D, hown, hf⟩, hbd⟩ := HMJ.out
               have HOWN := Hq hown
               have HF := Hq hf
               obtain ⟨G, hG⟩ : ∃ G, gad (-1) g1' (b.rm.take j) y = G := ⟨_, rfl⟩
               have hkl : (K1 ++ b.rm.take j).length ≤ 2000000 := by rw [List.length_append]; have := HKL1.out; have : (b.rm.take j).length ≤ j := by simp; omega
                                                                     omega
               have hg1 : -2000000 ≤ G := by rw [← hG]; have := (hbd y).1; omega
               have hg2 : G ≤ 2000000 := by rw [← hG]; have := (hbd y).2; omega
               have HBD := Hq hbd
               have HG := Hq hG
               have HKN := Hq hkl
               clear he hown hf hbd hG hkl
               go_wp2_with (at_lookup; refine wpList_lookup_own_int _ rfl _ _ 53 rfl 22 3 .i64 lawN Tryz.underlying53 Tryz.underlying3 (zeroI _) M (K1 ++ b.rm.take j).length D rfl HOWN.out (.string y) (.string y.data.toList) rfl (keyN HSZ.out) ?_)
               intro c hat hwc
               obtain rfl : c = G := by
                rw [(HF.out y).2, HG.out] at hat
                injection hat with h1
                injection h1 with _ h2
                exact h2.symm
               clear hat hwc
               go_wp2_with (at_mapUpdate; go_must (refine wpList_mapUpdate_own _ rfl _ _ _ 53 rfl 22 3 lawN Tryz.underlying53 _ M (K1 ++ b.rm.take j).length D rfl HOWN.out (by have := HKN.out; unfold maxLen; omega) (.string y) (.int .i64 (c - 1)) (.string y.data.toList) rfl rfl (keyN HSZ.out) (.lit (.int .i64 (c - 1))) [] (plainElem_int Tryz.underlying3 (wfZ (by omega) (by omega))) ?_))
               intro w3 hown3 hgrow3
               have hmz := mapZ_put HF.out HOWN.out.isMap hown3
               have HM3 := Hq (show MS w3 M (K1 ++ b.rm.take (j + 1)) (gad (-1) g1' (b.rm.take (j + 1))) from ⟨by
                rw [← gad_step (-1) g1' HY.out, HG.out, List.take_add_one, HY.out, Option.toList_some, ← List.append_assoc]
                exact hmz.congr (by simp; omega) rfl (by funext u; rfl), gad_bound (by decide) HBK1.out⟩)
               have HO3 := Hq (HOT.out.grown hgrow3 (fun k hk => .inr (by cases hk; rfl)))
               clear hown3 hgrow3 hmz
               go_wp2
               go_roundw
               case rel => exact ⟨j + 1, by omega, by go_num, HM3.out, HO3.out⟩
               case measure => simp [intOf]; omega
             · have hjn : n4 = j := by omega
               subst hjn
               have HMF := Hq (show MS wr M (K1 ++ b.rm) (gad (-1) g1' b.rm) from by have := HMJ.out; rwa [List.take_of_length_le (Nat.le_of_eq L4.out)] at this)
               clear hlt hj HMJ
               have HMN := Hq (show MS wr M (KK a b 2) (GG a b 2) from by
                have h := HMF.out
                rw [← HK1.out, ← HG1.out, ← HK0.out, ← HG0.out] at h
                exact h)
               have HON := Hq (HOWX.out.trans HOT.out)
               clear HMF HOT
               go_wp2
               go_roundw
               case rel => exact ⟨2, by omega, by go_num, HMN.out, HON.out⟩
               case measure => simp [intOf]
        | 2, _ =>
         rw [show ((2 : Nat) : Int) = 2 from rfl]
         have HMJ := Hq hms
         clear hms
         obtain ⟨w3, hw3⟩ : ∃ w3, w3 = wr := ⟨_, rfl⟩
         subst hw3
         have HPL := Hq (show P + 2 < M from by have := HR2.out.lt; have := HM2.out; omega)
         have HP3 := Hq (HOT.out.box (HP2.out.next HB2L.out) (by have := HPL.out; omega))
         have HQ3 := Hq (HOT.out.box (HQ2.out.next HB2L.out) (by have := HPL.out; omega))
         have HR3 := Hq (HOT.out.box (HR2.out.next HB2L.out) (by have := HPL.out; omega))
         have HB3 := Hq (show Below P w w3 from HB2.out.trans ((HB2L.out.mono (by have := HPL.out; have := HM2.out; omega)).trans ((HOT.out.below (by have := HWLS.out; omega)).mono (by have := HPL.out; omega))))
         have HSZ3 := Hq (show M + 2 ≤ w3.heap.size from by have := HOT.out.size; have := HWLS.out; omega)
         have GA := Hq (Dl.good (Dl.msg_ok HEA.out))
         have GB := Hq (Dl.good (Dl.msg_ok HEB.out))
         have HKN := Hq (show (KK a b 2).length ≤ 2000000 from by simp [KK]; have := L1.out; have := L2.out; have := L3.out; have := L4.out; omega)
         obtain ⟨BO, hBO⟩ : ∃ BO, w3.heap.size = BO := ⟨_, rfl⟩
         obtain ⟨WA, hWA⟩ : ∃ WA, w3.alloc (.cells #[.int .i64 0, .int .i64 0, .slice none 0 0, .slice none 0 0, .string ⟨#[]⟩, .string ⟨#[]⟩, .string ⟨#[]⟩, .string ⟨#[]⟩] 31) = WA := ⟨_, rfl⟩
         have hb3A : Below w3.heap.size w3 WA := by rw [← hWA]; exact (Below.refl _ _).alloc (Nat.le_refl _) _
         have HXA := Hq (show BxC WA BO #[.int .i64 0, .int .i64 0, .slice none 0 0, .slice none 0 0, .string ⟨#[]⟩, .string ⟨#[]⟩, .string ⟨#[]⟩, .string ⟨#[]⟩] 31 from by rw [← hWA, ← hBO]; exact BxC.new _ _ _)
         have p0 : w3.cell? ⟨P, 0, none⟩ = some (.int .i64 a.fr) := HP3.out.cell 0
         have p4 : w3.cell? ⟨P, 4, none⟩ = some (.string a.be) := HP3.out.cell 4
         have q1 : w3.cell? ⟨P + 1, 1, none⟩ = some (.int .i64 b.to) := HQ3.out.cell 1
         have q5 : w3.cell? ⟨P + 1, 5, none⟩ = some (.string b.af) := HQ3.out.cell 5
         have hb34 : Below w3.heap.size w3 (WA.setRow BO #[.int .i64 a.fr, .int .i64 b.to, .slice none 0 0, .slice none 0 0, .string a.be, .string b.af, .string ⟨#[]⟩, .string ⟨#[]⟩]) := below_setRow hb3A (Nat.le_of_eq hBO) _
         have HX4 := Hq (show BxC (WA.setRow BO #[.int .i64 a.fr, .int .i64 b.to, .slice none 0 0, .slice none 0 0, .string a.be, .string b.af, .string ⟨#[]⟩, .string ⟨#[]⟩]) BO #[.int .i64 a.fr, .int .i64 b.to, .slice none 0 0, .slice none 0 0, .string a.be, .string b.af, .string ⟨#[]⟩, .string ⟨#[]⟩] 31 from setRow_heap _ _ _ _ _ _ HXA.out)
         obtain ⟨W4, hW4⟩ : ∃ W4, WA.setRow BO #[.int .i64 a.fr, .int .i64 b.to, .slice none 0 0, .slice none 0 0, .string a.be, .string b.af, .string ⟨#[]⟩, .string ⟨#[]⟩] = W4 := ⟨_, rfl⟩
         rw [hW4] at hb34 HX4
         have HB34 := Hq hb34
         have HBO := Hq hBO
         clear hb34 hb3A
         go_wp2_with (refine wpList_store_rowTo rfl 31 _ _ rfl rfl BO #[.int .i64 a.fr, .int .i64 b.to, .slice none 0 0, .slice none 0 0, .string a.be, .string b.af, .string ⟨#[]⟩, .string ⟨#[]⟩] rfl rfl 31 #[.int .i64 0, .int .i64 0, .slice none 0 0, .slice none 0 0, .string ⟨#[]⟩, .string ⟨#[]⟩, .string ⟨#[]⟩, .string ⟨#[]⟩] HXA.out (by kernel_rfl) rfl (by simp [Value.oneCell']) ?_)
         clear hW4 hWA HXA p0 p4 q1 q5
         refine (show Calls Tryz.prog 19 #[.map (some M)] W4 _ from (callsIn_wide (n := 3)).1 (AnyZ.keys_in Tryz.keysN Fence.wide 3 trivial rfl (some M) W4)).mono ?_
         rintro e w5 ⟨rfl, hw5⟩
         have hM4 : MS W4 M (KK a b 2) (GG a b 2) := HMJ.out.below HB34.out (Nat.le_refl _)
         have hb45 : Below W4.heap.size W4 w5 := by rw [hw5]; exact (Below.refl _ _).alloc (Nat.le_refl _) _
         have hM5 := hM4.below hb45 (Nat.le_refl _)
         have hc5 : w5.cell? ⟨W4.heap.size, 0, none⟩ = some (.map (some M)) := by rw [hw5]; exact BxC.cell (BxC.new W4 _ _) 0
         have HS5 := Hq (ep_sorted M _ W4.heap.size _ _ w5 hM5.1 (valid_KK GA.out GB.out) (by have := HKN.out; omega) hc5 (by rw [hw5]; simp))
         have HM5 := Hq hM5
         have HB45 := Hq hb45
         clear hw5 hM4 hb45 hM5 hc5
         go_wp2_with fail
         refine HS5.out.mono ?_
         rintro e w6 ⟨A6, c6, l, rfl, hs6, hso, hln, hab, hb⟩
         have HS6 := Hq hs6
         have HSO := Hq hso
         have HLN := Hq hln
         have HAB := Hq hab
         have hb46 := HB45.out.trans (hb.mono HB45.out.size)
         have hb36 := HB34.out.trans (hb46.mono HB34.out.size)
         have HM6 := Hq (HM5.out.below hb (Nat.le_refl _))
         have HX6 := Hq (show BxC w6 BO (jcs a.fr b.to a.be b.af (.slice none 0 0) (.slice none 0 0)) 31 from HX4.out.next hb46)
         have HR6 := Hq (HR3.out.next hb36)
         have HB6 := Hq (HB3.out.trans (hb36.mono (by have := HPL.out; have := HSZ3.out; omega)))
         have HSB := Hq (show BO < w5.heap.size from by have := HX4.out.lt; have := HB45.out.size; omega)
         have HBS := Hq (show M + 2 ≤ BO from by have := HSZ3.out; have := HBO.out; omega)
         have hlc := hs6.2.1
         have hlc2 := hs6.2.2.1
         clear hs6 hso hln hab hb hb46 hb36
         go_wp2
         go_loopw [97] (fun i wr => ∃ (j : Nat) (v1 v2 : Value), j ≤ l.length ∧ i = .int .i64 j ∧ JS w6 wr BO a.fr b.to a.be b.af v1 v2 ((l.take j).filter (fun x => decide (chg a b x = 1))) ((l.take j).filter (fun x => decide (chg a b x = -1))) ∧ (∀ (i : Nat) x, i < j → l[i]? = some x → chg a b x ≠ 2 ∧ chg a b x ≠ -2)) (fun i _ => l.length - (intOf i).toNat)
         case atStart => exact ⟨0, _, _, Nat.zero_le _, rfl, by simpa using JS.start HX6.out, fun i u h => absurd h (Nat.not_lt_zero _)⟩
         case round =>
          obtain ⟨j, v1, v2, hj, rfl, hjs, hall⟩ := hrel
          have HALL := Hq hall
          clear hall
          by_cases hlt : j < l.length
          · obtain ⟨x, hx⟩ : ∃ x, l[j]? = some x := ⟨_, List.getElem?_eq_getElem hlt⟩
            obtain ⟨f1, hf1⟩ : ∃ f1, (l.take j).filter (fun x => decide (chg a b x = 1)) = f1 := ⟨_, rfl⟩
            obtain ⟨f2, hf2⟩ : ∃ f2, (l.take j).filter (fun x => decide (chg a b x = -1)) = f2 := ⟨_, rfl⟩
            rw [hf1, hf2] at hjs
            have HJS := Hq hjs
            have HX := Hq hx
            have HF1 := Hq hf1
            have HF2 := Hq hf2
            have HFL1 := Hq (show f1.length ≤ 2000000 from by rw [← hf1]; exact Nat.le_trans (List.length_filter_le _ _) (by rw [List.length_take]; have := HLN.out; have := HKN.out; omega))
            have HFL2 := Hq (show f2.length ≤ 2000000 from by rw [← hf2]; exact Nat.le_trans (List.length_filter_le _ _) (by rw [List.length_take]; have := HLN.out; have := HKN.out; omega))
            have hsw := HS6.out.of_blocks (w' := wr) (fun h0 ad he => hjs.oth.block _ (by subst he; exact HS6.out.lt h0) (by have := HAB.out h0 ad he; have := HSB.out; omega))
            obtain ⟨bb, oo, rfl, e1⟩ := hsw.cell hx
            have HVX := Hq (HSO.out.1 x (List.mem_of_getElem? hx))
            have HSZ := Hq (show x.size ≤ maxLen from by have := size_valid HVX.out; unfold maxLen; omega)
            obtain ⟨⟨D, hown, hf⟩, _⟩ := hjs.oth.ms HM6.out (by have := HBS.out; omega)
            have HOWN := Hq hown
            have HF := Hq hf
            clear hown hf hsw hjs hx hf1 hf2
            obtain ⟨G, hG⟩ : ∃ G, chg a b x = G := ⟨_, rfl⟩
            have HG := Hq hG
            clear hG
            go_wp2_with (at_lookup; refine wpList_lookup_own_int _ rfl _ _ 53 rfl 22 3 .i64 lawN Tryz.underlying53 Tryz.underlying3 (zeroI _) M (KK a b 2).length D rfl HOWN.out (.string x) (.string x.data.toList) rfl (keyN HSZ.out) ?_)
            intro c hat hwc
            obtain rfl : c = G := by
             rw [(HF.out x).2, gg_chg GA.out GB.out, HG.out] at hat
             injection hat with h1
             injection h1 with _ h2
             exact h2.symm
            clear hat hwc
            by_cases hc2 : c = 2 ∨ c = -2
            · have HJ := Hq (HJL.out ((clash_iff GA.out GB.out).2 ⟨x, (mem_KK x).1 ((HSO.out.2.2 x).1 (List.mem_of_getElem? HX.out)), by rw [HG.out]; exact hc2⟩))
              have HRB := Hq (HJS.out.oth.box HR6.out (by have := HPL.out; have := HBS.out; omega))
              have HBB := Hq (HB6.out.trans ((HJS.out.oth.below (Nat.le_of_lt HJS.out.lt)).mono (by have := HPL.out; have := HBS.out; omega)))
              clear e1
              rcases hc2 with rfl | rfl
              · skip
                go_wp2_with (refine wpList_store_rowTo rfl 31 _ _ rfl rfl (P + 1 + 1) (Dl.zero.arr (.slice none 0 0) (.slice none 0 0)) rfl rfl 31 (Dl.zero.arr (.slice none 0 0) (.slice none 0 0)) HRB.out (by kernel_rfl) rfl (Dl.zero.one _ _ _ _ _ _) ?_)
                have HRZ := Hq (show BxC _ (P + 1 + 1) (Dl.zero.arr (.slice none 0 0) (.slice none 0 0)) 31 from setRow_heap _ _ _ (Dl.zero.arr (.slice none 0 0) (.slice none 0 0)) _ _ HRB.out)
                have HBZ := Hq (below_setRow HBB.out (g := P + 1 + 1) (by omega) (Dl.zero.arr (.slice none 0 0) (.slice none 0 0)))
                go_wp2
                have y0 : (wr.setRow (P + 1 + 1) (Dl.zero.arr (.slice none 0 0) (.slice none 0 0))).cell? ⟨P + 1 + 1, 0, none⟩ = some (.int .i64 0) := HRZ.out.cell 0
                have y1 : (wr.setRow (P + 1 + 1) (Dl.zero.arr (.slice none 0 0) (.slice none 0 0))).cell? ⟨P + 1 + 1, 1, none⟩ = some (.int .i64 0) := HRZ.out.cell 1
                have y2 : (wr.setRow (P + 1 + 1) (Dl.zero.arr (.slice none 0 0) (.slice none 0 0))).cell? ⟨P + 1 + 1, 2, none⟩ = some (.slice none 0 0) := HRZ.out.cell 2
                have y3 : (wr.setRow (P + 1 + 1) (Dl.zero.arr (.slice none 0 0) (.slice none 0 0))).cell? ⟨P + 1 + 1, 3, none⟩ = some (.slice none 0 0) := HRZ.out.cell 3
                have y4 : (wr.setRow (P + 1 + 1) (Dl.zero.arr (.slice none 0 0) (.slice none 0 0))).cell? ⟨P + 1 + 1, 4, none⟩ = some (.string ⟨#[]⟩) := HRZ.out.cell 4
                have y5 : (wr.setRow (P + 1 + 1) (Dl.zero.arr (.slice none 0 0) (.slice none 0 0))).cell? ⟨P + 1 + 1, 5, none⟩ = some (.string ⟨#[]⟩) := HRZ.out.cell 5
                have y6 : (wr.setRow (P + 1 + 1) (Dl.zero.arr (.slice none 0 0) (.slice none 0 0))).cell? ⟨P + 1 + 1, 6, none⟩ = some (.string ⟨#[]⟩) := HRZ.out.cell 6
                have y7 : (wr.setRow (P + 1 + 1) (Dl.zero.arr (.slice none 0 0) (.slice none 0 0))).cell? ⟨P + 1 + 1, 7, none⟩ = some (.string ⟨#[]⟩) := HRZ.out.cell 7
                exact bodyPost_ret (v := .tuple #[.agg #[.int .i64 0, .int .i64 0, .slice none 0 0, .slice none 0 0, .string ⟨#[]⟩, .string ⟨#[]⟩, .string ⟨#[]⟩, .string ⟨#[]⟩], .int .i64 8]) (by simp [results, Tryz.results11, go_sem, y0, y1, y2, y3, y4, y5, y6, y7]) rfl ⟨none, 0, 0, none, 0, 0, by rw [HJ.out]; rfl, by rw [HJ.out]; exact SlN.nil _ _ (by omega) _, by rw [HJ.out]; exact SlN.nil _ _ (by omega) _, (fun h0 => by simp at h0), (fun h0 => by simp at h0), by rw [HPE.out]; exact HBZ.out⟩
              · skip
                go_wp2_with (refine wpList_store_rowTo rfl 31 _ _ rfl rfl (P + 1 + 1) (Dl.zero.arr (.slice none 0 0) (.slice none 0 0)) rfl rfl 31 (Dl.zero.arr (.slice none 0 0) (.slice none 0 0)) HRB.out (by kernel_rfl) rfl (Dl.zero.one _ _ _ _ _ _) ?_)
                have HRZ := Hq (show BxC _ (P + 1 + 1) (Dl.zero.arr (.slice none 0 0) (.slice none 0 0)) 31 from setRow_heap _ _ _ (Dl.zero.arr (.slice none 0 0) (.slice none 0 0)) _ _ HRB.out)
                have HBZ := Hq (below_setRow HBB.out (g := P + 1 + 1) (by omega) (Dl.zero.arr (.slice none 0 0) (.slice none 0 0)))
                go_wp2
                have y0 : (wr.setRow (P + 1 + 1) (Dl.zero.arr (.slice none 0 0) (.slice none 0 0))).cell? ⟨P + 1 + 1, 0, none⟩ = some (.int .i64 0) := HRZ.out.cell 0
                have y1 : (wr.setRow (P + 1 + 1) (Dl.zero.arr (.slice none 0 0) (.slice none 0 0))).cell? ⟨P + 1 + 1, 1, none⟩ = some (.int .i64 0) := HRZ.out.cell 1
                have y2 : (wr.setRow (P + 1 + 1) (Dl.zero.arr (.slice none 0 0) (.slice none 0 0))).cell? ⟨P + 1 + 1, 2, none⟩ = some (.slice none 0 0) := HRZ.out.cell 2
                have y3 : (wr.setRow (P + 1 + 1) (Dl.zero.arr (.slice none 0 0) (.slice none 0 0))).cell? ⟨P + 1 + 1, 3, none⟩ = some (.slice none 0 0) := HRZ.out.cell 3
                have y4 : (wr.setRow (P + 1 + 1) (Dl.zero.arr (.slice none 0 0) (.slice none 0 0))).cell? ⟨P + 1 + 1, 4, none⟩ = some (.string ⟨#[]⟩) := HRZ.out.cell 4
                have y5 : (wr.setRow (P + 1 + 1) (Dl.zero.arr (.slice none 0 0) (.slice none 0 0))).cell? ⟨P + 1 + 1, 5, none⟩ = some (.string ⟨#[]⟩) := HRZ.out.cell 5
                have y6 : (wr.setRow (P + 1 + 1) (Dl.zero.arr (.slice none 0 0) (.slice none 0 0))).cell? ⟨P + 1 + 1, 6, none⟩ = some (.string ⟨#[]⟩) := HRZ.out.cell 6
                have y7 : (wr.setRow (P + 1 + 1) (Dl.zero.arr (.slice none 0 0) (.slice none 0 0))).cell? ⟨P + 1 + 1, 7, none⟩ = some (.string ⟨#[]⟩) := HRZ.out.cell 7
                exact bodyPost_ret (v := .tuple #[.agg #[.int .i64 0, .int .i64 0, .slice none 0 0, .slice none 0 0, .string ⟨#[]⟩, .string ⟨#[]⟩, .string ⟨#[]⟩, .string ⟨#[]⟩], .int .i64 8]) (by simp [results, Tryz.results11, go_sem, y0, y1, y2, y3, y4, y5, y6, y7]) rfl ⟨none, 0, 0, none, 0, 0, by rw [HJ.out]; rfl, by rw [HJ.out]; exact SlN.nil _ _ (by omega) _, by rw [HJ.out]; exact SlN.nil _ _ (by omega) _, (fun h0 => by simp at h0), (fun h0 => by simp at h0), by rw [HPE.out]; exact HBZ.out⟩
            · have HNX := Hq (show ∀ (i : Nat) u, i < j + 1 → l[i]? = some u → chg a b u ≠ 2 ∧ chg a b u ≠ -2 from fun i u hi hu => by
                   rcases Nat.lt_or_ge i j with h | h
                   · exact HALL.out i u h hu
                   · obtain rfl : i = j := by omega
                     rw [HX.out] at hu; cases hu
                     rw [HG.out]
                     exact ⟨fun e => hc2 (.inl e), fun e => hc2 (.inr e)⟩)
              clear e1
              by_cases hc1 : c = 1
              · subst hc1
                have G1 := HG.out
                clear hc2
                obtain ⟨i0, hi, iz0, iz1, iz2⟩ := info_parts nat_info
                have z2 : wr.cell? ⟨BO, 2, none⟩ = some v1 := HJS.out.box.cell 2
                go_wp2_with (at_builtin; go_must (refine wpList_append_lies _ rfl (.tmp 111) (.tmp 113) 27 rfl w6.heap.size 22 i0 _ 1 16 Tryz.underlying27 hi iz0 iz1 iz2 rfl (by decide) v1 f1.length (f1.map Value.string) rfl (HJS.out.r1.alloc (.cells #[.string x] 22)) ⟨wr.heap.size, 0, none⟩ 1 1 [.string x] rfl rfl (World.news_of_block (heap_alloc_new wr (.cells #[.string x] 22))) ?hone (by decide) ?h63 ?hby ?hbase _ rfl ?_))
                case hone => intro u hu; simp only [List.mem_cons, List.mem_nil_iff, or_false] at hu; rcases hu with rfl; rfl
                case h63 => have := HFL1.out; unfold maxLen; omega
                case hby => have := HFL1.out; omega
                case hbase => have := HJS.out.oth.size; simp; omega
                intro g cap w7 hown hgrow hat hlt7
                have HBX7 := Hq (HJS.out.box1 hgrow)
                have HJ7 := Hq (HJS.out.step1 hown hgrow (by rw [World.size_alloc]; exact hat))
                have z7 : w7.cell? ⟨BO, 2, none⟩ = some v1 := HBX7.out.cell 2
                have f7 : w7.frozen? ⟨BO, 2, none⟩ = false := HBX7.out.free 2
                clear hown hgrow hat hlt7 hi iz0 iz1 iz2 z2
                go_wp2
                go_roundw
                case rel => exact ⟨j + 1, _, v2, by omega, by go_num, by rw [filter_take HX.out, filter_take HX.out, HF1.out, HF2.out]; simpa [G1] using HJ7.out, HNX.out⟩
                case measure => simp [intOf]; omega
              · by_cases hcm : c = -1
                · subst hcm
                  have G1 := HG.out
                  clear hc2 hc1
                  obtain ⟨i0, hi, iz0, iz1, iz2⟩ := info_parts nat_info
                  have z2 : wr.cell? ⟨BO, 3, none⟩ = some v2 := HJS.out.box.cell 3
                  go_wp2_with (at_builtin; go_must (refine wpList_append_lies _ rfl (.tmp 119) (.tmp 121) 27 rfl w6.heap.size 22 i0 _ 1 16 Tryz.underlying27 hi iz0 iz1 iz2 rfl (by decide) v2 f2.length (f2.map Value.string) rfl (HJS.out.r2.alloc (.cells #[.string x] 22)) ⟨wr.heap.size, 0, none⟩ 1 1 [.string x] rfl rfl (World.news_of_block (heap_alloc_new wr (.cells #[.string x] 22))) ?hone (by decide) ?h63 ?hby ?hbase _ rfl ?_))
                  case hone => intro u hu; simp only [List.mem_cons, List.mem_nil_iff, or_false] at hu; rcases hu with rfl; rfl
                  case h63 => have := HFL2.out; unfold maxLen; omega
                  case hby => have := HFL2.out; omega
                  case hbase => have := HJS.out.oth.size; simp; omega
                  intro g cap w7 hown hgrow hat hlt7
                  have HBX7 := Hq (HJS.out.box2 hgrow)
                  have HJ7 := Hq (HJS.out.step2 hown hgrow (by rw [World.size_alloc]; exact hat))
                  have z7 : w7.cell? ⟨BO, 3, none⟩ = some v2 := HBX7.out.cell 3
                  have f7 : w7.frozen? ⟨BO, 3, none⟩ = false := HBX7.out.free 3
                  clear hown hgrow hat hlt7 hi iz0 iz1 iz2 z2
                  go_wp2
                  go_roundw
                  case rel => exact ⟨j + 1, v1, _, by omega, by go_num, by rw [filter_take HX.out, filter_take HX.out, HF1.out, HF2.out]; simpa [G1] using HJ7.out, HNX.out⟩
                  case measure => simp [intOf]; omega
                · have e2 : (c == 2) = false := by simp only [beq_eq_false_iff_ne]; exact fun e => hc2 (.inl e)
                  have e2' : decide (c = 2) = false := decide_eq_false (fun e => hc2 (.inl e))
                  have e3 : (c == -2) = false := by simp only [beq_eq_false_iff_ne]; exact fun e => hc2 (.inr e)
                  have e3' : decide (c = -2) = false := decide_eq_false (fun e => hc2 (.inr e))
                  have e4 : (c == 1) = false := by simp only [beq_eq_false_iff_ne]; exact hc1
                  have e5 : (c == -1) = false := by simp only [beq_eq_false_iff_ne]; exact hcm
                  have HC1 := Hq hc1
                  have HCM := Hq hcm
                  clear hc2 hc1 hcm
                  go_wp2
                  go_roundw
                  case rel => exact ⟨j + 1, v1, v2, by omega, by go_num, by rw [filter_take HX.out, filter_take HX.out, HF1.out, HF2.out, HG.out, if_neg (by simpa using HC1.out), if_neg (by simpa using HCM.out), List.append_nil, List.append_nil]; exact HJS.out, HNX.out⟩
                  case measure => simp [intOf]; omega
          · have hjn : l.length = j := by omega
            subst hjn
            rw [List.take_length] at hjs
            have HNC := Hq (show clash a b = false from by
             cases hcl : clash a b with
             | false => rfl
             | true =>
                   obtain ⟨x, hx, h2⟩ := (clash_iff GA.out GB.out).1 hcl
                   have hxl := (HSO.out.2.2 x).2 ((mem_KK x).2 hx)
                   obtain ⟨i, hi⟩ := List.getElem?_of_mem hxl
                   have := HALL.out i x (List.getElem?_eq_some_iff.1 hi).1 hi
                   rcases h2 with h2 | h2
                   · exact absurd h2 this.1
                   · exact absurd h2 this.2)
            have HJ := Hq (HJN.out HNC.out)
            have hll := jn_lists GA.out GB.out HNC.out (K := KK a b 2) mem_KK HSO.out
            rw [hll.1, hll.2] at hjs
            obtain ⟨n5, hn5⟩ : ∃ n5, (mrg (memB b.rm) (memB a.rm) a.ad b.ad).length = n5 := ⟨_, rfl⟩
            obtain ⟨n7, hn7⟩ : ∃ n7, (mrg (memB b.ad) (memB a.ad) a.rm b.rm).length = n7 := ⟨_, rfl⟩
            have hr1 := hjs.r1
            have hr2 := hjs.r2
            rw [hn5] at hr1
            rw [hn7] at hr2
            obtain ⟨A5, c5, rfl, hs5, hf5⟩ := own_sln hr1
            obtain ⟨A7, c7, rfl, hs7, hf7⟩ := own_sln hr2
            have HJS := Hq hjs
            have HS5' := Hq hs5
            have HS7 := Hq hs7
            have HF5 := Hq hf5
            have HF7 := Hq hf7
            have HR9 := Hq (hjs.oth.box HR6.out (by have := HPL.out; have := HBS.out; omega))
            have HB9 := Hq (HB6.out.trans ((hjs.oth.below (Nat.le_of_lt hjs.lt)).mono (by have := HPL.out; have := HBS.out; omega)))
            have HW6 := Hq (show BO < w6.heap.size from hjs.lt)
            clear hlt hj hll hr1 hr2 hs5 hs7 hf5 hf7 hjs hn5 hn7
            have u0' : wr.cell? ⟨BO, 0, none⟩ = some (.int .i64 a.fr) := HJS.out.box.cell 0
            have u1' : wr.cell? ⟨BO, 1, none⟩ = some (.int .i64 b.to) := HJS.out.box.cell 1
            have u2' : wr.cell? ⟨BO, 2, none⟩ = some (.slice A5 n5 c5) := HJS.out.box.cell 2
            have u3' : wr.cell? ⟨BO, 3, none⟩ = some (.slice A7 n7 c7) := HJS.out.box.cell 3
            have u4' : wr.cell? ⟨BO, 4, none⟩ = some (.string a.be) := HJS.out.box.cell 4
            have u5' : wr.cell? ⟨BO, 5, none⟩ = some (.string b.af) := HJS.out.box.cell 5
            have u6' : wr.cell? ⟨BO, 6, none⟩ = some (.string ⟨#[]⟩) := HJS.out.box.cell 6
            have u7' : wr.cell? ⟨BO, 7, none⟩ = some (.string ⟨#[]⟩) := HJS.out.box.cell 7
            go_wp2_with (refine wpList_store_rowTo rfl 31 _ _ rfl rfl (P + 1 + 1) #[.int .i64 a.fr, .int .i64 b.to, .slice A5 n5 c5, .slice A7 n7 c7, .string a.be, .string b.af, .string ⟨#[]⟩, .string ⟨#[]⟩] rfl rfl 31 (Dl.zero.arr (.slice none 0 0) (.slice none 0 0)) HR9.out (by kernel_rfl) rfl (by simp [Value.oneCell']) ?_)
            have HRZ := Hq (show BxC (wr.setRow (P + 1 + 1) #[.int .i64 a.fr, .int .i64 b.to, .slice A5 n5 c5, .slice A7 n7 c7, .string a.be, .string b.af, .string ⟨#[]⟩, .string ⟨#[]⟩]) (P + 1 + 1) #[.int .i64 a.fr, .int .i64 b.to, .slice A5 n5 c5, .slice A7 n7 c7, .string a.be, .string b.af, .string ⟨#[]⟩, .string ⟨#[]⟩] 31 from setRow_heap _ _ _ _ _ _ HR9.out)
            have HBZ := Hq (below_setRow HB9.out (g := P + 1 + 1) (by omega) #[.int .i64 a.fr, .int .i64 b.to, .slice A5 n5 c5, .slice A7 n7 c7, .string a.be, .string b.af, .string ⟨#[]⟩, .string ⟨#[]⟩])
            have y0 : (wr.setRow (P + 1 + 1) #[.int .i64 a.fr, .int .i64 b.to, .slice A5 n5 c5, .slice A7 n7 c7, .string a.be, .string b.af, .string ⟨#[]⟩, .string ⟨#[]⟩]).cell? ⟨P + 1 + 1, 0, none⟩ = some (.int .i64 a.fr) := HRZ.out.cell 0
            have y1 : (wr.setRow (P + 1 + 1) #[.int .i64 a.fr, .int .i64 b.to, .slice A5 n5 c5, .slice A7 n7 c7, .string a.be, .string b.af, .string ⟨#[]⟩, .string ⟨#[]⟩]).cell? ⟨P + 1 + 1, 1, none⟩ = some (.int .i64 b.to) := HRZ.out.cell 1
            have y2 : (wr.setRow (P + 1 + 1) #[.int .i64 a.fr, .int .i64 b.to, .slice A5 n5 c5, .slice A7 n7 c7, .string a.be, .string b.af, .string ⟨#[]⟩, .string ⟨#[]⟩]).cell? ⟨P + 1 + 1, 2, none⟩ = some (.slice A5 n5 c5) := HRZ.out.cell 2
            have y3 : (wr.setRow (P + 1 + 1) #[.int .i64 a.fr, .int .i64 b.to, .slice A5 n5 c5, .slice A7 n7 c7, .string a.be, .string b.af, .string ⟨#[]⟩, .string ⟨#[]⟩]).cell? ⟨P + 1 + 1, 3, none⟩ = some (.slice A7 n7 c7) := HRZ.out.cell 3
            have y4 : (wr.setRow (P + 1 + 1) #[.int .i64 a.fr, .int .i64 b.to, .slice A5 n5 c5, .slice A7 n7 c7, .string a.be, .string b.af, .string ⟨#[]⟩, .string ⟨#[]⟩]).cell? ⟨P + 1 + 1, 4, none⟩ = some (.string a.be) := HRZ.out.cell 4
            have y5 : (wr.setRow (P + 1 + 1) #[.int .i64 a.fr, .int .i64 b.to, .slice A5 n5 c5, .slice A7 n7 c7, .string a.be, .string b.af, .string ⟨#[]⟩, .string ⟨#[]⟩]).cell? ⟨P + 1 + 1, 5, none⟩ = some (.string b.af) := HRZ.out.cell 5
            have y6 : (wr.setRow (P + 1 + 1) #[.int .i64 a.fr, .int .i64 b.to, .slice A5 n5 c5, .slice A7 n7 c7, .string a.be, .string b.af, .string ⟨#[]⟩, .string ⟨#[]⟩]).cell? ⟨P + 1 + 1, 6, none⟩ = some (.string ⟨#[]⟩) := HRZ.out.cell 6
            have y7 : (wr.setRow (P + 1 + 1) #[.int .i64 a.fr, .int .i64 b.to, .slice A5 n5 c5, .slice A7 n7 c7, .string a.be, .string b.af, .string ⟨#[]⟩, .string ⟨#[]⟩]).cell? ⟨P + 1 + 1, 7, none⟩ = some (.string ⟨#[]⟩) := HRZ.out.cell 7
            exact bodyPost_ret (v := .tuple #[.agg #[.int .i64 a.fr, .int .i64 b.to, .slice A5 n5 c5, .slice A7 n7 c7, .string a.be, .string b.af, .string ⟨#[]⟩, .string ⟨#[]⟩], .int .i64 0]) (by simp [results, Tryz.results11, go_sem, y0, y1, y2, y3, y4, y5, y6, y7]) rfl ⟨A5, n5, c5, A7, n7, c7, by rw [HJ.out]; rfl, by rw [HJ.out]; exact HS5'.out.of_blocks (fun h0 ad he => setRow_other _ _ _ _ (by have := (HF5.out h0 ad he).1; have := HW6.out; have := HBS.out; have := HPL.out; omega)), by rw [HJ.out]; exact HS7.out.of_blocks (fun h0 ad he => setRow_other _ _ _ _ (by have := (HF7.out h0 ad he).1; have := HW6.out; have := HBS.out; have := HPL.out; omega)), (fun h0 ad he => by have := (HF5.out h0 ad he).1; have := HW6.out; have := HBS.out; have := HPL.out; have := HPE.out; omega), (fun h0 ad he => by have := (HF7.out h0 ad he).1; have := HW6.out; have := HBS.out; have := HPL.out; have := HPE.out; omega), by rw [HPE.out]; exact HBZ.out⟩
     · have hs2 : (a.af.toList == b.be.toList) = false := by rw [beq_eq_false_iff_ne]; exact fun h => hs (toList_inj h)
       have HJ := Hq (show jn a b = (Dl.zero, 1) from by unfold jn; rw [if_neg (by rw [HEA.out]; simp), if_neg (by rw [HEB.out]; simp), if_neg (by rw [HT.out]; simp), if_pos hs])
       clear hs
       go_wp2_with (refine wpList_store_rowTo rfl 31 _ _ rfl rfl (P + 1 + 1) (Dl.zero.arr (.slice none 0 0) (.slice none 0 0)) rfl rfl 31 (Dl.zero.arr (.slice none 0 0) (.slice none 0 0)) HRB.out (by kernel_rfl) rfl (Dl.zero.one _ _ _ _ _ _) ?_)
       have HRZ := Hq (show BxC _ (P + 1 + 1) (Dl.zero.arr (.slice none 0 0) (.slice none 0 0)) 31 from setRow_heap _ _ _ (Dl.zero.arr (.slice none 0 0) (.slice none 0 0)) _ _ HRB.out)
       have HBZ := Hq (below_setRow HBB.out (g := P + 1 + 1) (by omega) (Dl.zero.arr (.slice none 0 0) (.slice none 0 0)))
       go_wp2
       have y0 : (w2.setRow (P + 1 + 1) (Dl.zero.arr (.slice none 0 0) (.slice none 0 0))).cell? ⟨P + 1 + 1, 0, none⟩ = some (.int .i64 0) := HRZ.out.cell 0
       have y1 : (w2.setRow (P + 1 + 1) (Dl.zero.arr (.slice none 0 0) (.slice none 0 0))).cell? ⟨P + 1 + 1, 1, none⟩ = some (.int .i64 0) := HRZ.out.cell 1
       have y2 : (w2.setRow (P + 1 + 1) (Dl.zero.arr (.slice none 0 0) (.slice none 0 0))).cell? ⟨P + 1 + 1, 2, none⟩ = some (.slice none 0 0) := HRZ.out.cell 2
       have y3 : (w2.setRow (P + 1 + 1) (Dl.zero.arr (.slice none 0 0) (.slice none 0 0))).cell? ⟨P + 1 + 1, 3, none⟩ = some (.slice none 0 0) := HRZ.out.cell 3
       have y4 : (w2.setRow (P + 1 + 1) (Dl.zero.arr (.slice none 0 0) (.slice none 0 0))).cell? ⟨P + 1 + 1, 4, none⟩ = some (.string ⟨#[]⟩) := HRZ.out.cell 4
       have y5 : (w2.setRow (P + 1 + 1) (Dl.zero.arr (.slice none 0 0) (.slice none 0 0))).cell? ⟨P + 1 + 1, 5, none⟩ = some (.string ⟨#[]⟩) := HRZ.out.cell 5
       have y6 : (w2.setRow (P + 1 + 1) (Dl.zero.arr (.slice none 0 0) (.slice none 0 0))).cell? ⟨P + 1 + 1, 6, none⟩ = some (.string ⟨#[]⟩) := HRZ.out.cell 6
       have y7 : (w2.setRow (P + 1 + 1) (Dl.zero.arr (.slice none 0 0) (.slice none 0 0))).cell? ⟨P + 1 + 1, 7, none⟩ = some (.string ⟨#[]⟩) := HRZ.out.cell 7
       exact bodyPost_ret (v := .tuple #[.agg #[.int .i64 0, .int .i64 0, .slice none 0 0, .slice none 0 0, .string ⟨#[]⟩, .string ⟨#[]⟩, .string ⟨#[]⟩, .string ⟨#[]⟩], .int .i64 1]) (by simp [results, Tryz.results11, go_sem, y0, y1, y2, y3, y4, y5, y6, y7]) rfl ⟨none, 0, 0, none, 0, 0, by rw [HJ.out]; rfl, by rw [HJ.out]; exact SlN.nil _ _ (by omega) _, by rw [HJ.out]; exact SlN.nil _ _ (by omega) _, (fun h0 => by simp at h0), (fun h0 => by simp at h0), by rw [HPE.out]; exact HBZ.out⟩
   · have hd : (a.to != b.fr) = true := by simpa using ht
     have HJ := Hq (show jn a b = (Dl.zero, 21) from by unfold jn; rw [if_neg (by rw [HEA.out]; simp), if_neg (by rw [HEB.out]; simp), if_pos ht])
     clear ht
     go_wp2_with (refine wpList_store_rowTo rfl 31 _ _ rfl rfl (P + 1 + 1) (Dl.zero.arr (.slice none 0 0) (.slice none 0 0)) rfl rfl 31 (Dl.zero.arr (.slice none 0 0) (.slice none 0 0)) HRB.out (by kernel_rfl) rfl (Dl.zero.one _ _ _ _ _ _) ?_)
     have HRZ := Hq (show BxC _ (P + 1 + 1) (Dl.zero.arr (.slice none 0 0) (.slice none 0 0)) 31 from setRow_heap _ _ _ (Dl.zero.arr (.slice none 0 0) (.slice none 0 0)) _ _ HRB.out)
     have HBZ := Hq (below_setRow HBB.out (g := P + 1 + 1) (by omega) (Dl.zero.arr (.slice none 0 0) (.slice none 0 0)))
     go_wp2
     have y0 : (w2.setRow (P + 1 + 1) (Dl.zero.arr (.slice none 0 0) (.slice none 0 0))).cell? ⟨P + 1 + 1, 0, none⟩ = some (.int .i64 0) := HRZ.out.cell 0
     have y1 : (w2.setRow (P + 1 + 1) (Dl.zero.arr (.slice none 0 0) (.slice none 0 0))).cell? ⟨P + 1 + 1, 1, none⟩ = some (.int .i64 0) := HRZ.out.cell 1
     have y2 : (w2.setRow (P + 1 + 1) (Dl.zero.arr (.slice none 0 0) (.slice none 0 0))).cell? ⟨P + 1 + 1, 2, none⟩ = some (.slice none 0 0) := HRZ.out.cell 2
     have y3 : (w2.setRow (P + 1 + 1) (Dl.zero.arr (.slice none 0 0) (.slice none 0 0))).cell? ⟨P + 1 + 1, 3, none⟩ = some (.slice none 0 0) := HRZ.out.cell 3
     have y4 : (w2.setRow (P + 1 + 1) (Dl.zero.arr (.slice none 0 0) (.slice none 0 0))).cell? ⟨P + 1 + 1, 4, none⟩ = some (.string ⟨#[]⟩) := HRZ.out.cell 4
     have y5 : (w2.setRow (P + 1 + 1) (Dl.zero.arr (.slice none 0 0) (.slice none 0 0))).cell? ⟨P + 1 + 1, 5, none⟩ = some (.string ⟨#[]⟩) := HRZ.out.cell 5
     have y6 : (w2.setRow (P + 1 + 1) (Dl.zero.arr (.slice none 0 0) (.slice none 0 0))).cell? ⟨P + 1 + 1, 6, none⟩ = some (.string ⟨#[]⟩) := HRZ.out.cell 6
     have y7 : (w2.setRow (P + 1 + 1) (Dl.zero.arr (.slice none 0 0) (.slice none 0 0))).cell? ⟨P + 1 + 1, 7, none⟩ = some (.string ⟨#[]⟩) := HRZ.out.cell 7
     exact bodyPost_ret (v := .tuple #[.agg #[.int .i64 0, .int .i64 0, .slice none 0 0, .slice none 0 0, .string ⟨#[]⟩, .string ⟨#[]⟩, .string ⟨#[]⟩, .string ⟨#[]⟩], .int .i64 21]) (by simp [results, Tryz.results11, go_sem, y0, y1, y2, y3, y4, y5, y6, y7]) rfl ⟨none, 0, 0, none, 0, 0, by rw [HJ.out]; rfl, by rw [HJ.out]; exact SlN.nil _ _ (by omega) _, by rw [HJ.out]; exact SlN.nil _ _ (by omega) _, (fun h0 => by simp at h0), (fun h0 => by simp at h0), by rw [HPE.out]; exact HBZ.out⟩
theorem ep_Join (a b : Dl) (A1 A2 A3 A4 : Option Addr) (n1 c1 n2 c2 n3 c3 n4 c4 : Nat) (w : World) (h1 : SlN w A1 n1 c1 a.ad) (h2 : SlN w A2 n2 c2 a.rm) (h3 : SlN w A3 n3 c3 b.ad) (h4 : SlN w A4 n4 c4 b.rm) (g1 : n1 ≤ 400000) (g2 : n2 ≤ 400000) (g3 : n3 ≤ 400000) (g4 : n4 ≤ 400000) (za : SzL a.str) (zb : SzL b.str) :
 Calls Tryz.prog 11 #[.agg (a.arr (.slice A1 n1 c1) (.slice A2 n2 c2)), .agg (b.arr (.slice A3 n3 c3) (.slice A4 n4 c4))] w (RetDl (jn a b) w) :=
 (ep_JoinF a b A1 A2 A3 A4 n1 c1 n2 c2 n3 c3 n4 c4 w h1 h2 h3 h4 g1 g2 g3 g4 za zb).mono fun _ _ h => h.out
end Go.Proofs.YtehflcnjnnhojaaGreat

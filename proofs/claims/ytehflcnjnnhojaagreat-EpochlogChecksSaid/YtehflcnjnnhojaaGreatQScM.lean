import Derived.Test.YtehflcnjnnhojaaGreatQPeA
import Derived.Test.YtehflcnjnnhojaaGreatQInt
import Derived.Test.YtehflcnjnnhojaaGreatQRowN
import Derived.Test.YtehflcnjnnhojaaGreatQScH
import Derived.Test.YtehflcnjnnhojaaGreatQPeR
import Derived.Test.YtehflcnjnnhojaaGreatQScF
import Derived.Test.YtehflcnjnnhojaaGreatQBit
import Derived.Test.YtehflcnjnnhojaaGreatQTrB
import Derived.Test.YtehflcnjnnhojaaGreatQNatB
import Derived.Test.YtehflcnjnnhojaaGreatQDig
import Derived.Test.YtehflcnjnnhojaaGreatQScA
import Derived.Test.YtehflcnjnnhojaaGreatQNum2
import Derived.Great.Walk
import Derived.Laws.CopyOwn
import Derived.Deep.Cut
set_option linter.unusedVariables false
set_option linter.unusedSimpArgs false
namespace Go.Proofs.YtehflcnjnnhojaaGreat
set_option maxRecDepth 100000
set_option maxHeartbeats 1000000
open Go.RowKit Go.Shelf
attribute [local go_sem] Oper.semAt_some
def few9 (M O : ByteArray) (l : List ByteArray) : Bool := l.all (fun s => decide (s.size ≤ 20)) && (decide (M.size ≤ 8) && decide (O.size ≤ 10))
theorem few9_big {M O : ByteArray} {l : List ByteArray} {k : Nat} {s : ByteArray} (h : l[k]? = some s) (hb : 20 < s.size) : few9 M O l = false := by
 unfold few9
 have : l.all (fun s => decide (s.size ≤ 20)) = false := by
  rw [List.all_eq_false]
  exact ⟨s, List.mem_of_getElem? h, by simp; omega⟩
 rw [this]; rfl
theorem few9_all {M O : ByteArray} {l : List ByteArray} (h : ∀ k, k < l.length → ∃ s, l[k]? = some s ∧ s.size ≤ 20) : few9 M O l = (decide (M.size ≤ 8) && decide (O.size ≤ 10)) := by
 unfold few9
 have : l.all (fun s => decide (s.size ≤ 20)) = true := by
  rw [List.all_eq_true]
  intro s hs
  obtain ⟨k, hk⟩ := List.mem_iff_getElem?.1 hs
  obtain ⟨s', h1, h2⟩ := h k (List.getElem?_eq_some_iff.1 hk).1
  rw [hk] at h1
  cases h1
  exact decide_eq_true h2
 rw [this]; rfl
theorem few9_of {M O : ByteArray} {l : List ByteArray} (h : few9 M O l = true) : M.size ≤ 8 ∧ O.size ≤ 10 ∧ ∀ s ∈ l, s.size ≤ 20 := by
 unfold few9 at h
 simp only [Bool.and_eq_true, decide_eq_true_eq, List.all_eq_true] at h
 exact ⟨h.2.1, h.2.2, h.1⟩
theorem law_Few (M O : ByteArray) (l : List ByteArray) (A : Option Addr) (len cap : Nat) (hl : len ≤ 1000) (w : World) (hs : SlN w A len cap l) : Calls Tryz.prog 10 #[gV M O, .slice A len cap] w (Ret (.bool (few9 M O l)) w) := by
 have HX0 := Hq (Bx2.new w (.string M) (.string O) 24)
 have HB0 := Hq ((Below.refl w.heap.size w).alloc (Nat.le_refl _) (.cells #[.string M, .string O] 24))
 have c0 := HX0.out.c0
 have c1 := HX0.out.c1
 have HS := Hq (hs.kept HB0.out (Nat.le_refl _))
 have HLEN := Hq hs.1
 have hcap := hs.2.1
 have hcap2 := hs.2.2.1
 clear hs
 unfold gV
 go_enter Tryz.func10, Tryz.ntmps10
 go_wp2
 go_loop [5] (fun i => ∃ k : Nat, k ≤ len ∧ i = .int .i64 k ∧ ∀ j, j < k → ∃ s, l[j]? = some s ∧ s.size ≤ 20) (fun i => len - (intOf i).toNat)
 case atStart => exact ⟨0, Nat.zero_le _, rfl, fun j h => by omega⟩
 case round =>
  obtain ⟨k, hk, rfl, hall⟩ := hrel
  have HALL := Hq hall
  clear hall
  by_cases hlt : k < len
  · obtain ⟨b, o, rfl⟩ := HS.out.head (by omega)
    obtain ⟨s, he⟩ : ∃ s, l[k]? = some s := ⟨_, List.getElem?_eq_getElem (by rw [HLEN.out]; exact hlt)⟩
    have d0 := HS.out.get? k he
    have HE := Hq he
    clear he
    by_cases h1 : 20 < s.size
    · have HF := Hq (few9_big (M := M) (O := O) HE.out h1)
      have i1 : decide ((20 : Int) < (s.size : Int)) = true := decide_eq_true (by omega)
      go_wp2
      go_ret
      exact ⟨by rw [HF.out]; rfl, HB0.out⟩
    · have i1 : decide ((20 : Int) < (s.size : Int)) = false := decide_eq_false (by omega)
      go_wp2
      go_round
      case rel =>
       refine ⟨k + 1, by omega, by go_num, fun j hj => ?_⟩
       by_cases hjk : j < k
       · exact HALL.out j hjk
       · obtain rfl : j = k := by omega
         exact ⟨s, HE.out, by omega⟩
      case measure => simp [intOf]; omega
  · obtain rfl : k = len := by omega
    have HF := Hq (few9_all (M := M) (O := O) (l := l) (fun j hj => HALL.out j (by have := HLEN.out; omega)))
    by_cases h8 : M.size ≤ 8
    · rw [decide_eq_true h8, Bool.true_and] at HF
      have h8' : (M.size : Int) ≤ 8 := by omega
      by_cases h10 : O.size ≤ 10
      · rw [decide_eq_true h10] at HF
        have h10' : (O.size : Int) ≤ 10 := by omega
        go_wp2
        go_ret
        exact ⟨by rw [HF.out]; rfl, HB0.out⟩
      · rw [decide_eq_false h10] at HF
        have h10' : decide ((O.size : Int) ≤ 10) = false := decide_eq_false (by omega)
        go_wp2
        go_ret
        exact ⟨by rw [HF.out]; rfl, HB0.out⟩
    · rw [decide_eq_false h8, Bool.false_and] at HF
      have h8' : decide ((M.size : Int) ≤ 8) = false := decide_eq_false (by omega)
      go_wp2
      go_ret
      exact ⟨by rw [HF.out]; rfl, HB0.out⟩
end Go.Proofs.YtehflcnjnnhojaaGreat
namespace Go.Proofs.YtehflcnjnnhojaaGreat
set_option maxRecDepth 100000
set_option maxHeartbeats 1000000
open Go.RowKit Go.Lib
def few33 (M O G H : ByteArray) (l : List ByteArray) : Bool := few9 M O [G, H] && few9 M O l
theorem few33_of {M O G H : ByteArray} {l : List ByteArray} (h : few33 M O G H l = true) : M.size ≤ 8 ∧ O.size ≤ 10 ∧ G.size ≤ 20 ∧ H.size ≤ 20 ∧ ∀ s ∈ l, s.size ≤ 20 := by
 unfold few33 at h
 rw [Bool.and_eq_true] at h
 obtain ⟨a, b, c⟩ := few9_of h.1
 exact ⟨a, b, c G (by simp), c H (by simp), (few9_of h.2).2.2⟩
theorem law33_Few (M O G H : ByteArray) (l : List ByteArray) (A : Option Addr) (n cap : Nat) (hn : n ≤ 1000) (w : World) (hsl : SlN w A n cap l) : Calls Tryz.prog 5 #[kV M O G H, .slice A n cap] w (Ret (.bool (few33 M O G H l)) w) := by
 have HK0 := Hq (SB.new w M O G H)
 have HS0 := Hq (hsl.kept ((Below.refl _ _).alloc (Nat.le_refl _) (.cells #[.string M, .string O, .string G, .string H] 26)) (Nat.le_refl _))
 obtain ⟨W0, hW0⟩ : ∃ W, w.alloc (.cells #[.string M, .string O, .string G, .string H] 26) = W := ⟨_, rfl⟩
 rw [hW0] at HK0 HS0
 have hs2 := sln_alloc W0 [G, H] 22 (by simp)
 have hbb := (Below.refl W0.heap.size W0).alloc (Nat.le_refl _) (.cells #[.string G, .string H] 22)
 have HF1 := Hq (law_Few M O [G, H] _ 2 2 (by omega) _ hs2)
 have HK1 := Hq (HK0.out.next hbb)
 have HS1 := Hq (HS0.out.kept hbb (Nat.le_refl _))
 have HLF := Hq (fun w hs => law_Few M O l A n cap hn w hs)
 obtain ⟨c0, c1, c2, c3⟩ := HK0.out.1.cells
 cases h1 : few9 M O [G, H] with
 | false =>
  rw [h1] at HF1
  have HR := Hq (show few33 M O G H l = false from by unfold few33; rw [h1]; rfl)
  rw [HR.out]
  unfold kV gV at *
  clear hsl hn hs2 hbb h1
  go_enter Tryz.func5, Tryz.ntmps5
  go_wp2_with fail
  try rw [hW0]
  clear hW0
  refine HF1.out.mono ?_
  rintro ev w1 ⟨rfl, hb⟩
  have HK2 := Hq (HK1.out.next hb)
  clear hb c0 c1 c2 c3
  go_wp2
  go_ret
  exact ⟨rfl, HK2.out.2⟩
 | true =>
  rw [h1] at HF1
  have HR := Hq (show few33 M O G H l = few9 M O l from by unfold few33; rw [h1]; rfl)
  rw [HR.out]
  unfold kV gV at *
  clear hsl hn hs2 hbb h1
  go_enter Tryz.func5, Tryz.ntmps5
  go_wp2_with fail
  try rw [hW0]
  clear hW0
  refine HF1.out.mono ?_
  rintro ev w1 ⟨rfl, hb⟩
  have HK2 := Hq (HK1.out.next hb)
  have HLL := Hq (HLF.out _ (HS1.out.kept hb (Nat.le_refl _)))
  clear hb c0 c1 c2 c3
  obtain ⟨c0, c1, c2, c3⟩ := HK2.out.1.cells
  go_wp2_with fail
  refine HLL.out.mono ?_
  rintro ev w2 ⟨rfl, hb⟩
  have HK3 := Hq (HK2.out.next hb)
  clear hb c0 c1 c2 c3
  go_wp2
  go_ret
  exact ⟨rfl, HK3.out.2⟩
end Go.Proofs.YtehflcnjnnhojaaGreat

/- Walks: the signer's few, the law SchnorrSigns. -/
import Derived.Test.YtndmjfkmnjejkaaGreatDoorQScJ
import Derived.Test.YtndmjfkmnjejkaaGreatDoorQCoBs
import Derived.Test.YtndmjfkmnjejkaaGreatDoorQMdC
import Derived.Test.YtndmjfkmnjejkaaGreatDoorQCoB
import Derived.Test.YtndmjfkmnjejkaaGreatDoorQScA
import Derived.Test.YtndmjfkmnjejkaaGreatDoorQRin
import Derived.Test.YtndmjfkmnjejkaaGreatDoorQLdA
import Derived.Test.YtndmjfkmnjejkaaGreatDoorQReg
import Derived.Laws.Concat
import Derived.Test.YtndmjfkmnjejkaaGreatDoorQCoI
import Derived.Test.YtndmjfkmnjejkaaGreatDoorQOvr
import Derived.Lib.ItoaNum
import Derived.Test.YtndmjfkmnjejkaaGreatDoorQPeB
import Derived.Test.YtndmjfkmnjejkaaGreatDoorQRowN
import Derived.Laws.AppendOwn
import Derived.Deep.AppendLies
import Derived.Test.YtndmjfkmnjejkaaGreatDoorQPeH
import Derived.Test.YtndmjfkmnjejkaaGreatDoorQTpA
import Derived.Deep.Cut
import Derived.Test.YtndmjfkmnjejkaaGreatDoorQBld
set_option linter.unusedVariables false
set_option linter.unusedSimpArgs false
namespace Go.Proofs.YtndmjfkmnjejkaaGreatDoor
open Go.RowKit Go.Lib
def snV (M O G Y X msg : ByteArray) (A : Option Addr) (n cap : Nat) (s : ByteArray) (k : Int) : Value := .agg #[.string M, .string O, .string G, .string Y, .string X, .string msg, .slice A n cap, .string s, .int .i64 k]
def SX9 (w W : World) (M O G Y X msg : ByteArray) (A : Option Addr) (n cap : Nat) (s : ByteArray) (k : Int) (l : List ByteArray) : Prop :=
  W.heap[w.heap.size]? = some (.cells #[.string M, .string O, .string G, .string Y, .string X, .string msg, .slice A n cap, .string s, .int .i64 k] 71 (0, 0)) ∧ SlN W A n cap l ∧ Below w.heap.size w W
theorem SX9.new (w : World) (M O G Y X msg : ByteArray) (A : Option Addr) (n cap : Nat) (s : ByteArray) (k : Int) (l : List ByteArray) (hs : SlN w A n cap l) : SX9 w (w.alloc (.cells #[.string M, .string O, .string G, .string Y, .string X, .string msg, .slice A n cap, .string s, .int .i64 k] 71)) M O G Y X msg A n cap s k l :=
  ⟨heap_alloc_new _ _, hs.kept ((Below.refl _ _).alloc (Nat.le_refl _) _) (Nat.le_refl _), (Below.refl _ _).alloc (Nat.le_refl _) _⟩
theorem SX9.next {w W W' : World} {M O G Y X msg : ByteArray} {A : Option Addr} {n cap : Nat} {s : ByteArray} {k : Int} {l : List ByteArray} (h : SX9 w W M O G Y X msg A n cap s k l) (hb : Below W.heap.size W W') : SX9 w W' M O G Y X msg A n cap s k l :=
  ⟨(hb.block _ (block_lt h.1)).trans h.1, h.2.1.kept hb (Nat.le_refl _), h.2.2.trans (hb.mono h.2.2.size)⟩
theorem SX9.cells {w W : World} {M O G Y X msg : ByteArray} {A : Option Addr} {n cap : Nat} {s : ByteArray} {k : Int} {l : List ByteArray} (h : SX9 w W M O G Y X msg A n cap s k l) :
    W.cell? ⟨w.heap.size, 0, none⟩ = some (.string M) ∧ W.cell? ⟨w.heap.size, 1, none⟩ = some (.string O) ∧ W.cell? ⟨w.heap.size, 2, none⟩ = some (.string G) ∧ W.cell? ⟨w.heap.size, 3, none⟩ = some (.string Y) ∧ W.cell? ⟨w.heap.size, 4, none⟩ = some (.string X) ∧ W.cell? ⟨w.heap.size, 5, none⟩ = some (.string msg) ∧ W.cell? ⟨w.heap.size, 6, none⟩ = some (.slice A n cap) ∧ W.cell? ⟨w.heap.size, 7, none⟩ = some (.string s) ∧ W.cell? ⟨w.heap.size, 8, none⟩ = some (.int .i64 k) := by
  have := h.1
  refine ⟨?_, ?_, ?_, ?_, ?_, ?_, ?_, ?_, ?_⟩ <;> (rw [Lib.cell_of_heap this]; rfl)
def fewS (M O G Y X msg : ByteArray) (l : List ByteArray) (s : ByteArray) (k : Int) : Bool := few33 M O G Y [X] && (decide (msg.size ≤ 300) && few11 l s k)
set_option maxRecDepth 100000 in
set_option maxHeartbeats 2000000 in
theorem law33_fewS (M O G Y X msg : ByteArray) (l : List ByteArray) (s : ByteArray) (k : Int) (A : Option Addr) (n cap : Nat) (w : World) (hs : SlN w A n cap l) : Calls Tryz.prog 34 #[snV M O G Y X msg A n cap s k] w (Ret (.bool (fewS M O G Y X msg l s k)) w) := by
  have hx0 := SX9.new w M O G Y X msg A n cap s k l hs
  obtain ⟨W0, hW0⟩ : ∃ W, w.alloc (.cells #[.string M, .string O, .string G, .string Y, .string X, .string msg, .slice A n cap, .string s, .int .i64 k] 71) = W := ⟨_, rfl⟩
  rw [hW0] at hx0
  have HX0 := Lib.hid hx0
  have HX1 := Lib.hid (hx0.next ((Below.refl W0.heap.size W0).alloc (Nat.le_refl _) (.cells #[.string X] 22)))
  have HFW := Lib.hid (law33_Few M O G Y [X] _ 1 1 (by omega) _ (sln_alloc W0 [X] 22 (by simp)))
  have HFT := Lib.hid (fun W hs => law11_Few l s k A n cap W hs)
  obtain ⟨c0, c1, c2, c3, c4, c5, c6, c7, c8⟩ := HX0.out.cells
  have HR := Lib.hid (show fewS M O G Y X msg l s k = (few33 M O G Y [X] && (decide (msg.size ≤ 300) && few11 l s k)) from rfl)
  rw [HR.out]
  unfold snV kV tpV at *
  clear hx0 hs
  cases h1 : few33 M O G Y [X] with
  | false =>
    rw [h1] at HFW
    rw [Bool.false_and]
    clear h1
    go_enter Tryz.func34, Tryz.ntmps34
    go_wp2_with fail
    try rw [hW0]
    clear hW0
    refine HFW.out.mono ?_
    rintro ev w1 ⟨rfl, hb⟩
    have HX2 := Lib.hid (HX1.out.next hb)
    clear hb c0 c1 c2 c3 c4 c5 c6 c7 c8
    obtain ⟨c0, c1, c2, c3, c4, c5, c6, c7, c8⟩ := HX2.out.cells
    go_wp2
    go_ret
    exact ⟨rfl, HX2.out.2.2⟩
  | true =>
    rw [h1] at HFW
    rw [Bool.true_and]
    clear h1
    by_cases hm : msg.size ≤ 300
    · rw [decide_eq_true hm, Bool.true_and]
      have hmi : (msg.size : Int) ≤ 300 := by omega
      clear hm
      go_enter Tryz.func34, Tryz.ntmps34
      go_wp2_with fail
      try rw [hW0]
      clear hW0
      refine HFW.out.mono ?_
      rintro ev w1 ⟨rfl, hb⟩
      have HX2 := Lib.hid (HX1.out.next hb)
      clear hb c0 c1 c2 c3 c4 c5 c6 c7 c8
      obtain ⟨c0, c1, c2, c3, c4, c5, c6, c7, c8⟩ := HX2.out.cells
      have HFU := Lib.hid (HFT.out _ HX2.out.2.1)
      go_wp2_with fail
      refine HFU.out.mono ?_
      rintro ev w2 ⟨rfl, hb⟩
      have HX3 := Lib.hid (HX2.out.next hb)
      clear hb c0 c1 c2 c3 c4 c5 c6 c7 c8
      go_wp2
      go_ret
      exact ⟨rfl, HX3.out.2.2⟩
    · rw [decide_eq_false hm, Bool.false_and]
      have hmi : ¬ (msg.size : Int) ≤ 300 := by omega
      clear hm
      go_enter Tryz.func34, Tryz.ntmps34
      go_wp2_with fail
      try rw [hW0]
      clear hW0
      refine HFW.out.mono ?_
      rintro ev w1 ⟨rfl, hb⟩
      have HX2 := Lib.hid (HX1.out.next hb)
      clear hb c0 c1 c2 c3 c4 c5 c6 c7 c8
      obtain ⟨c0, c1, c2, c3, c4, c5, c6, c7, c8⟩ := HX2.out.cells
      go_wp2
      go_ret
      exact ⟨rfl, HX2.out.2.2⟩
def GTb (W : World) (P : Nat) (a b : ByteArray) (A : Option Addr) (m n : Nat) (ts : ByteArray) (tk : Int) (tl : List ByteArray) : Prop :=
  Bx2 W P (.string a) (.string b) 52 ∧ TB W (P + 1) A m n ts tk ∧ SlN W A m n tl
theorem GTb.next {W W' : World} {P : Nat} {a b : ByteArray} {A : Option Addr} {m n : Nat} {ts : ByteArray} {tk : Int} {tl : List ByteArray} (h : GTb W P a b A m n ts tk tl) (hb : Below W.heap.size W W') : GTb W' P a b A m n ts tk tl :=
  ⟨h.1.next hb, h.2.1.nextT hb, h.2.2.kept hb (Nat.le_refl _)⟩
theorem GTb.new (w : World) (a b : ByteArray) (A : Option Addr) (m n : Nat) (ts : ByteArray) (tk : Int) (tl : List ByteArray) (hs : SlN w A m n tl) :
    GTb ((w.alloc (.cells #[.string a, .string b] 52)).alloc (.cells #[.slice A m n, .string ts, .int .i64 tk] 31)) w.heap.size a b A m n ts tk tl ∧ Below w.heap.size w ((w.alloc (.cells #[.string a, .string b] 52)).alloc (.cells #[.slice A m n, .string ts, .int .i64 tk] 31)) := by
  have hb1 := ((Below.refl w.heap.size w).alloc (Nat.le_refl _) (.cells #[.string a, .string b] 52)).alloc (by simp) (.cells #[.slice A m n, .string ts, .int .i64 tk] 31)
  have ht2 := TB.new (w.alloc (.cells #[.string a, .string b] 52)) A m n ts tk
  rw [World.size_alloc] at ht2
  exact ⟨⟨(Bx2.new _ _ _ _).next ((Below.refl _ _).alloc (Nat.le_refl _) _), ht2, hs.kept hb1 (Nat.le_refl _)⟩, hb1⟩
end Go.Proofs.YtndmjfkmnjejkaaGreatDoor
/- The arguments opened: a signer. -/
set_option linter.unusedVariables false
set_option linter.unusedSimpArgs false
namespace Go.Proofs.YtndmjfkmnjejkaaGreatDoor
open Go.ChangeShapes Go.WideShapes Go.ChangeAt Go.Deep Go.Joins Go.RowKit
open Go.ChangeMaps (open_string shut_string)
section
variable {H : Type} {enc : TypeId × Value → H} {W : World} {sp : Nat → Bool} {held : Bool}
theorem open_skeyC {fuel : Nat} {c0 c1 c2 c3 : Value} {x : DataW H × List MemPlace} (hf : DataW.trod enc Tryz.prog W 0 (fun _ => true) held fuel 46 [c0, c1, c2, c3] = some x) : ∃ M O G K : ByteArray, c0 = .string M ∧ c1 = .string O ∧ c2 = .string G ∧ c3 = .string K := by
  obtain ⟨n1, y1, g1⟩ := trod_at Tryz.underlying46 hf 0 _ rfl 2 (by kernel_rfl)
  have g1 : DataW.trod enc Tryz.prog W 0 (fun _ => true) held n1 24 [c0, c1] = some y1 := g1
  obtain ⟨n2, y2, g2⟩ := trod_at Tryz.underlying46 hf 1 _ rfl 1 (by kernel_rfl)
  have g2 : DataW.trod enc Tryz.prog W 0 (fun _ => true) held n2 22 [c2] = some y2 := g2
  obtain ⟨n3, y3, g3⟩ := trod_at Tryz.underlying46 hf 2 _ rfl 1 (by kernel_rfl)
  have g3 : DataW.trod enc Tryz.prog W 0 (fun _ => true) held n3 22 [c3] = some y3 := g3
  obtain ⟨n4, y4, g4⟩ := trod_at Tryz.underlying24 g1 0 _ rfl 1 (by kernel_rfl)
  have g4 : DataW.trod enc Tryz.prog W 0 (fun _ => true) held n4 22 [c0] = some y4 := g4
  obtain ⟨n5, y5, g5⟩ := trod_at Tryz.underlying24 g1 1 _ rfl 1 (by kernel_rfl)
  have g5 : DataW.trod enc Tryz.prog W 0 (fun _ => true) held n5 22 [c1] = some y5 := g5
  obtain ⟨s0, e0, _⟩ := DataW.trod_string Tryz.underlying22 g4
  obtain ⟨s1, e1, _⟩ := DataW.trod_string Tryz.underlying22 g5
  obtain ⟨s2, e2, _⟩ := DataW.trod_string Tryz.underlying22 g2
  obtain ⟨s3, e3, _⟩ := DataW.trod_string Tryz.underlying22 g3
  simp only [List.cons.injEq, and_true] at e0 e1 e2 e3
  exact ⟨s0, s1, s2, s3, e0, e1, e2, e3⟩
set_option maxRecDepth 100000 in
theorem open_signer {r : Reach} {b0 : Nat} {v : Value} {d : DataW H} {p : List MemPlace} (hv : Value.okWide Tryz.prog W r b0 71 v) (h : DataW.Trod enc Tryz.prog W 0 (fun _ => true) held 71 v d p) : ∃ (M O G Y X m : ByteArray) (A : Option Addr) (n cap : Nat) (l : List ByteArray) (s : ByteArray) (k : Int), v = snV M O G Y X m A n cap s k ∧ SlN W A n cap l := by
  obtain ⟨cs, rfl, hsz⟩ := okWide_struct Tryz.underlying71 hv
  obtain ⟨c0, c1, c2, c3, c4, c5, c6, c7, c8, rfl⟩ := array9T (hsz.trans (show Tryz.prog.cellsOf 71 = 9 from by kernel_rfl))
  obtain ⟨fuel, hf⟩ := h
  have hf : DataW.trod enc Tryz.prog W 0 (fun _ => true) held fuel 71 [c0, c1, c2, c3, c4, c5, c6, c7, c8] = some (d, p) := hf
  obtain ⟨n1, y1, g1⟩ := trod_at Tryz.underlying71 hf 0 _ rfl 4 (by kernel_rfl)
  have g1 : DataW.trod enc Tryz.prog W 0 (fun _ => true) held n1 46 [c0, c1, c2, c3] = some y1 := g1
  obtain ⟨n2, y2, g2⟩ := trod_at Tryz.underlying71 hf 1 _ rfl 1 (by kernel_rfl)
  have g2 : DataW.trod enc Tryz.prog W 0 (fun _ => true) held n2 22 [c4] = some y2 := g2
  obtain ⟨n3, y3, g3⟩ := trod_at Tryz.underlying71 hf 2 _ rfl 1 (by kernel_rfl)
  have g3 : DataW.trod enc Tryz.prog W 0 (fun _ => true) held n3 9 [c5] = some y3 := g3
  obtain ⟨n4, y4, g4⟩ := trod_at Tryz.underlying71 hf 3 _ rfl 3 (by kernel_rfl)
  have g4 : DataW.trod enc Tryz.prog W 0 (fun _ => true) held n4 31 [c6, c7, c8] = some y4 := g4
  obtain ⟨X, e2, _⟩ := DataW.trod_string Tryz.underlying22 g2
  obtain ⟨m, e3, _⟩ := DataW.trod_string Tryz.underlying9 g3
  obtain ⟨A, n, cap, l, s, k, e6, e7, e8, hs⟩ := open_tapeC g4
  obtain ⟨M, O, G, K, e0, e1, e4, e5⟩ := open_skeyC g1
  simp only [List.cons.injEq, and_true] at e2 e3
  subst e0 e1 e2 e3 e4 e5 e6 e7 e8
  exact ⟨M, O, G, K, X, m, A, n, cap, l, s, k, rfl, hs⟩
end
end Go.Proofs.YtndmjfkmnjejkaaGreatDoor
/- Walks: schnorr.Verify, dominoref33.Verify. -/
set_option linter.unusedVariables false
set_option linter.unusedSimpArgs false
namespace Go.Proofs.YtndmjfkmnjejkaaGreatDoor
open Go.RowKit Go.Lib
def veB (M O G Y c r msg : ByteArray) : Bool := decide (chS M O G Y (cmS (num M) (num O) (num G) (num Y) (num c) (num r)) msg = num c)
def veK (M O G Y c r msg : ByteArray) : Int :=
  if scK M O G Y = 0 then (if (nvalid c && nvalid r) = true then (if (decide (num c < num O) && (decide (num r < num O) && veB M O G Y c r msg)) = true then 0 else 19) else 3) else scK M O G Y
theorem chS_fold (M O G Y msg : ByteArray) (x : Nat) : chL (snL M.data.toList O.data.toList G.data.toList Y.data.toList (nS x).data.toList msg.data.toList) O.size (num O) = chS M O G Y x msg := rfl
theorem field_run (R : ByteArray) (w : World) : (Instr.field 106 (.agg #[.string R]) 0).run Tryz.prog w = .ok (.string R) w := by kernel_rfl
set_option maxRecDepth 100000 in
set_option maxHeartbeats 4000000 in
theorem sc_Verify (M O G Y c r msg : ByteArray) (hM : M.size ≤ 8) (hO : O.size ≤ 100) (hG : G.size ≤ 1000) (hY : Y.size ≤ 1000) (hc : c.size ≤ 1000) (hr : r.size ≤ 1000) (hm : msg.size ≤ 1000000) (w : World) :
    Calls Tryz.prog 32 #[kV M O G Y, .string msg, .agg #[.string c, .string r]] w (Ret (.int .i64 (veK M O G Y c r msg)) w) := by
  have hx0 := SG.new w M O G Y c r
  obtain ⟨W0, hW0⟩ : ∃ W, ((w.alloc (.cells #[.string M, .string O, .string G, .string Y] 46)).alloc (.cells #[.string c, .string r] 52)) = W := ⟨_, rfl⟩
  rw [hW0] at hx0
  have HX0 := Lib.hid hx0
  obtain ⟨c0, c1, c2, c3⟩ := hx0.1.1.cells
  have s0 := hx0.2.c0
  have s1 := hx0.2.c1
  clear hx0
  have HCK := Lib.hid (sc_Check M O G Y hM hO hG hY)
  have HFM := Lib.hid (fun W : World => sc_formed [c, r] (some ⟨W.heap.size, 0, none⟩) 2 2 (by omega) (by
    intro z hz
    simp at hz
    rcases hz with h | h <;> subst h <;> omega) (W.alloc (.cells #[.string c, .string r] 22)) (sln_alloc W [c, r] 22 (by simp)))
  rw [show ([c, r].all nvalid) = (nvalid c && nvalid r) from by simp] at HFM
  by_cases hk : scK M O G Y = 0
  · rw [hk] at HCK
    cases hv : (nvalid c && nvalid r) with
    | false =>
      rw [hv] at HFM
      rw [show veK M O G Y c r msg = 3 from by unfold veK; rw [if_pos hk, hv, if_neg (by decide)]]
      unfold kV at *
      clear hv hk
      go_enter Tryz.func32, Tryz.ntmps32
      go_wp2_with fail
      try rw [hW0]
      clear hW0
      refine (HCK.out _).mono ?_
      rintro ev w1 ⟨rfl, hb⟩
      have HX1 := Lib.hid (HX0.out.next hb)
      clear hb c0 c1 c2 c3 s0 s1
      obtain ⟨c0, c1, c2, c3⟩ := HX1.out.1.1.cells
      have s0 := HX1.out.2.c0
      have s1 := HX1.out.2.c1
      have HX2 := Lib.hid (HX1.out.next ((Below.refl w1.heap.size w1).alloc (Nat.le_refl _) (.cells #[.string c, .string r] 22)))
      go_wp2_with fail
      refine (HFM.out _).mono ?_
      rintro ev w2 ⟨rfl, rfl⟩
      clear c0 c1 c2 c3 s0 s1
      go_wp2
      go_ret
      exact ⟨rfl, HX2.out.1.2⟩
    | true =>
      rw [hv] at HFM
      obtain ⟨vc, vr⟩ := Bool.and_eq_true_iff.1 hv
      obtain ⟨hv4, hck, hz, hg, hy⟩ := scK_ok hk
      obtain ⟨v1, v2, v3, v4⟩ := all_four hv4
      have h8 := chk_small hv4 hM hck
      have HBL := Lib.hid (sc_below M O G Y c r v2 vc vr)
      have HV := Lib.hid (show veK M O G Y c r msg = (if (decide (num c < num O) && (decide (num r < num O) && veB M O G Y c r msg)) = true then 0 else 19) from by unfold veK; rw [if_pos hk, hv, if_pos rfl])
      by_cases hbl : num c < num O ∧ num r < num O
      · rw [decide_eq_true hbl] at HBL
        have HCO := Lib.hid (sc_commitmentOf M O G Y c r hM hk vc vr hbl.1)
        have hRz : (nS (cmS (num M) (num O) (num G) (num Y) (num c) (num r))).size ≤ 1000000 := by
          have hm0 : 0 < num M := by
            obtain ⟨i, hu⟩ := has_un (chkK_parts hck).2.2 (genK_parts hg).1
            have := hu.1
            omega
          have h9 := num_small hM
          have : cmS (num M) (num O) (num G) (num Y) (num c) (num r) < num M := Nat.mod_lt _ hm0
          have : (nS (cmS (num M) (num O) (num G) (num Y) (num c) (num r))).size ≤ 128 := nS_size_le.2 (lt128_of_lt8 (by omega))
          omega
        have HCH := Lib.hid (sc_challenge M O G Y (nS (cmS (num M) (num O) (num G) (num Y) (num c) (num r))) msg hM h8 (by omega) (by omega) hRz hm v2 (by omega))
        rw [chS_fold] at HCH
        have hbe := nS_beq (chS M O G Y (cmS (num M) (num O) (num G) (num Y) (num c) (num r)) msg) (num c)
        rw [← nS_num vc] at hbe
        have HV2 := Lib.hid (show veK M O G Y c r msg = if veB M O G Y c r msg = true then 0 else 19 from by rw [HV.out, decide_eq_true hbl.1, decide_eq_true hbl.2]; rfl)
        have hvb : veB M O G Y c r msg = decide (chS M O G Y (cmS (num M) (num O) (num G) (num Y) (num c) (num r)) msg = num c) := rfl
        rw [← hvb] at hbe
        obtain ⟨R, hR⟩ : ∃ R, nS (cmS (num M) (num O) (num G) (num Y) (num c) (num r)) = R := ⟨_, rfl⟩
        obtain ⟨x, hx⟩ : ∃ x, nS (chS M O G Y (cmS (num M) (num O) (num G) (num Y) (num c) (num r)) msg) = x := ⟨_, rfl⟩
        rw [hR] at HCO HCH
        rw [hx] at HCH hbe
        obtain ⟨b, hb⟩ : ∃ b, veB M O G Y c r msg = b := ⟨_, rfl⟩
        rw [hb] at hbe HV2
        unfold kV at *
        clear hv hk vc vr hv4 hck hz hg hy v1 v2 v3 v4 h8 hbl hRz hR hx hvb hb HV hM hO hG hY hc hr hm
        cases b with
        | false =>
          rw [show veK M O G Y c r msg = 19 from HV2.out]
          go_enter Tryz.func32, Tryz.ntmps32
          go_wp2_with fail
          try rw [hW0]
          clear hW0
          refine (HCK.out _).mono ?_
          rintro ev w1 ⟨rfl, hb⟩
          have HX1 := Lib.hid (HX0.out.next hb)
          clear hb c0 c1 c2 c3 s0 s1
          obtain ⟨c0, c1, c2, c3⟩ := HX1.out.1.1.cells
          have s0 := HX1.out.2.c0
          have s1 := HX1.out.2.c1
          have HX2 := Lib.hid (HX1.out.next ((Below.refl w1.heap.size w1).alloc (Nat.le_refl _) (.cells #[.string c, .string r] 22)))
          go_wp2_with fail
          refine (HFM.out _).mono ?_
          rintro ev w2 ⟨rfl, rfl⟩
          clear c0 c1 c2 c3 s0 s1
          go_wp2
          obtain ⟨wd, hwd⟩ : ∃ wd, World.drew (w1.alloc (.cells #[.string c, .string r] 22)) = wd := ⟨_, rfl⟩
          have HXD := Lib.hid (show SG w wd M O G Y c r from by rw [← hwd]; exact HX2.out.next (Below.refl _ _).drew)
          obtain ⟨k0, k1, k2, k3⟩ := HXD.out.1.1.cells
          have t0 := HXD.out.2.c0
          have t1 := HXD.out.2.c1
          refine wp_region_K 16 (Below (wd).heap.size (wd)) (by kernel_rfl) ?_
          intro hD
          rw [hwd]
          have KK1 := Lib.hid (fun w' (hS' : (Below (wd).heap.size (wd)) w') => And.intro (kC hS' k0) (And.intro (kC hS' k1) (And.intro (kC hS' k2) (And.intro (kC hS' k3) (And.intro (kC hS' t0) (kC hS' t1))))))
          refine rT 0 20 15 rfl hD (Below.refl _ _) (by intro w' hS'; obtain ⟨e0, e1, e2, e3, e4, e5⟩ := KK1.out w' hS'; go_simp; with_reducible rfl) ?_; clear hD; intro hD; simp only [Act.put, sqA, sqB, sqC]
          refine rT 1 21 14 rfl hD (Below.refl _ _) (by intro w' hS'; obtain ⟨e0, e1, e2, e3, e4, e5⟩ := KK1.out w' hS'; go_simp; with_reducible rfl) ?_; clear hD; intro hD; simp only [Act.put, sqA, sqB, sqC]
          refine rO 2 13 rfl hD ?_; clear hD; intro K2 hK2
          go_wp2_with fail
          refine (HBL.out _).mono ?_
          rintro ev w3 ⟨rfl, hb⟩
          have HB2 := Lib.hid hb
          clear hb
          go_wp2
          refine hK2 _ _ (by exact HB2.out) ?_; clear hK2; intro hS_6_2 hD
          refine rP 3 23 12 rfl hD hS_6_2 ?_; clear hD; intro hD; simp only [Act.put, sqA, sqB, sqC]
          refine rP 4 24 11 rfl hD hS_6_2 ?_; clear hD; intro hD; simp only [Act.put, sqA, sqB, sqC]
          refine rT 5 25 10 rfl hD hS_6_2 (by intro w' hS'; obtain ⟨e0, e1, e2, e3, e4, e5⟩ := KK1.out w' hS'; go_simp; with_reducible rfl) ?_; clear hD; intro hD; simp only [Act.put, sqA, sqB, sqC]
          refine rT 6 26 9 rfl hD hS_6_2 (by intro w' hS'; obtain ⟨e0, e1, e2, e3, e4, e5⟩ := KK1.out w' hS'; go_simp; with_reducible rfl) ?_; clear hD; intro hD; simp only [Act.put, sqA, sqB, sqC]
          refine rT 7 27 8 rfl hD hS_6_2 (by intro w' hS'; obtain ⟨e0, e1, e2, e3, e4, e5⟩ := KK1.out w' hS'; go_simp; with_reducible rfl) ?_; clear hD; intro hD; simp only [Act.put, sqA, sqB, sqC]
          refine rP 10 30 7 rfl hD hS_6_2 ?_; clear hD; intro hD; simp only [Act.put, sqA, sqB, sqC]
          refine rP 12 32 6 rfl hD hS_6_2 ?_; clear hD; intro hD; simp only [Act.put, sqA, sqB, sqC]
          refine rT 13 33 5 rfl hD hS_6_2 (by intro w' hS'; obtain ⟨e0, e1, e2, e3, e4, e5⟩ := KK1.out w' hS'; go_simp; with_reducible rfl) ?_; clear hD; intro hD; simp only [Act.put, sqA, sqB, sqC]
          refine rO 8 4 rfl hD ?_; clear hD; intro K8 hK8
          go_wp2_with fail
          refine (HCO.out _).mono ?_
          rintro ev w4 ⟨rfl, hb⟩
          have HB8 := Lib.hid hb
          clear hb
          go_wp2
          refine hK8 _ _ (by exact Below.trans hS_6_2 (Below.mono HB8.out (Below.size hS_6_2))) ?_; clear hK8; intro hS_6_8 hD
          refine wpAnyK_takeSD (i := 9) (d := some 29) (v := (.string R)) (fuel := 3) rfl (by kernel_rfl) (by kernel_rfl) (by kernel_rfl) (fun _ _ _ h => h) hD hS_6_8 (.inl ⟨by kernel_rfl, ?y6_9b1⟩) ?n6_9b1
          case y6_9b1 =>
            intro w' _
            have hfd := field_run R w'
            go_simp
          clear hD; intro hD
          simp only [Act.put, sqA, sqB, sqC]
          refine rO 11 2 rfl hD ?_; clear hD; intro K11 hK11
          go_wp2_with fail
          refine (HCH.out _).mono ?_
          rintro ev w5 ⟨rfl, hb⟩
          have HB11 := Lib.hid hb
          clear hb
          go_wp2
          refine hK11 _ _ (by exact Below.trans hS_6_8 (Below.mono HB11.out (Below.size hS_6_8))) ?_; clear hK11; intro hS_6_11 hD
          have HL := Lib.hid hS_6_11
          refine rP 14 34 1 rfl hD hS_6_11 ?_; clear hD; intro hD; simp only [Act.put, sqA, sqB, sqC]
          refine rP 15 35 0 rfl hD hS_6_11 ?_; clear hD; intro hD; simp only [Act.put, sqA, sqB, sqC]
          refine wpAnyK_done (by kernel_rfl) ?_ 0
          clear hD
          go_wp2
          go_ret
          exact ⟨rfl, (HXD.out.next HL.out).1.2⟩
        | true =>
          rw [show veK M O G Y c r msg = 0 from HV2.out]
          go_enter Tryz.func32, Tryz.ntmps32
          go_wp2_with fail
          try rw [hW0]
          clear hW0
          refine (HCK.out _).mono ?_
          rintro ev w1 ⟨rfl, hb⟩
          have HX1 := Lib.hid (HX0.out.next hb)
          clear hb c0 c1 c2 c3 s0 s1
          obtain ⟨c0, c1, c2, c3⟩ := HX1.out.1.1.cells
          have s0 := HX1.out.2.c0
          have s1 := HX1.out.2.c1
          have HX2 := Lib.hid (HX1.out.next ((Below.refl w1.heap.size w1).alloc (Nat.le_refl _) (.cells #[.string c, .string r] 22)))
          go_wp2_with fail
          refine (HFM.out _).mono ?_
          rintro ev w2 ⟨rfl, rfl⟩
          clear c0 c1 c2 c3 s0 s1
          go_wp2
          obtain ⟨wd, hwd⟩ : ∃ wd, World.drew (w1.alloc (.cells #[.string c, .string r] 22)) = wd := ⟨_, rfl⟩
          have HXD := Lib.hid (show SG w wd M O G Y c r from by rw [← hwd]; exact HX2.out.next (Below.refl _ _).drew)
          obtain ⟨k0, k1, k2, k3⟩ := HXD.out.1.1.cells
          have t0 := HXD.out.2.c0
          have t1 := HXD.out.2.c1
          refine wp_region_K 16 (Below (wd).heap.size (wd)) (by kernel_rfl) ?_
          intro hD
          rw [hwd]
          have KK2 := Lib.hid (fun w' (hS' : (Below (wd).heap.size (wd)) w') => And.intro (kC hS' k0) (And.intro (kC hS' k1) (And.intro (kC hS' k2) (And.intro (kC hS' k3) (And.intro (kC hS' t0) (kC hS' t1))))))
          refine rT 0 20 15 rfl hD (Below.refl _ _) (by intro w' hS'; obtain ⟨e0, e1, e2, e3, e4, e5⟩ := KK2.out w' hS'; go_simp; with_reducible rfl) ?_; clear hD; intro hD; simp only [Act.put, sqA, sqB, sqC]
          refine rT 1 21 14 rfl hD (Below.refl _ _) (by intro w' hS'; obtain ⟨e0, e1, e2, e3, e4, e5⟩ := KK2.out w' hS'; go_simp; with_reducible rfl) ?_; clear hD; intro hD; simp only [Act.put, sqA, sqB, sqC]
          refine rO 2 13 rfl hD ?_; clear hD; intro K2 hK2
          go_wp2_with fail
          refine (HBL.out _).mono ?_
          rintro ev w3 ⟨rfl, hb⟩
          have HB2 := Lib.hid hb
          clear hb
          go_wp2
          refine hK2 _ _ (by exact HB2.out) ?_; clear hK2; intro hS_6_2 hD
          refine rP 3 23 12 rfl hD hS_6_2 ?_; clear hD; intro hD; simp only [Act.put, sqA, sqB, sqC]
          refine rP 4 24 11 rfl hD hS_6_2 ?_; clear hD; intro hD; simp only [Act.put, sqA, sqB, sqC]
          refine rT 5 25 10 rfl hD hS_6_2 (by intro w' hS'; obtain ⟨e0, e1, e2, e3, e4, e5⟩ := KK2.out w' hS'; go_simp; with_reducible rfl) ?_; clear hD; intro hD; simp only [Act.put, sqA, sqB, sqC]
          refine rT 6 26 9 rfl hD hS_6_2 (by intro w' hS'; obtain ⟨e0, e1, e2, e3, e4, e5⟩ := KK2.out w' hS'; go_simp; with_reducible rfl) ?_; clear hD; intro hD; simp only [Act.put, sqA, sqB, sqC]
          refine rT 7 27 8 rfl hD hS_6_2 (by intro w' hS'; obtain ⟨e0, e1, e2, e3, e4, e5⟩ := KK2.out w' hS'; go_simp; with_reducible rfl) ?_; clear hD; intro hD; simp only [Act.put, sqA, sqB, sqC]
          refine rP 10 30 7 rfl hD hS_6_2 ?_; clear hD; intro hD; simp only [Act.put, sqA, sqB, sqC]
          refine rP 12 32 6 rfl hD hS_6_2 ?_; clear hD; intro hD; simp only [Act.put, sqA, sqB, sqC]
          refine rT 13 33 5 rfl hD hS_6_2 (by intro w' hS'; obtain ⟨e0, e1, e2, e3, e4, e5⟩ := KK2.out w' hS'; go_simp; with_reducible rfl) ?_; clear hD; intro hD; simp only [Act.put, sqA, sqB, sqC]
          refine rO 8 4 rfl hD ?_; clear hD; intro K8 hK8
          go_wp2_with fail
          refine (HCO.out _).mono ?_
          rintro ev w4 ⟨rfl, hb⟩
          have HB8 := Lib.hid hb
          clear hb
          go_wp2
          refine hK8 _ _ (by exact Below.trans hS_6_2 (Below.mono HB8.out (Below.size hS_6_2))) ?_; clear hK8; intro hS_6_8 hD
          refine wpAnyK_takeSD (i := 9) (d := some 29) (v := (.string R)) (fuel := 3) rfl (by kernel_rfl) (by kernel_rfl) (by kernel_rfl) (fun _ _ _ h => h) hD hS_6_8 (.inl ⟨by kernel_rfl, ?y6_9b2⟩) ?n6_9b2
          case y6_9b2 =>
            intro w' _
            have hfd := field_run R w'
            go_simp
          clear hD; intro hD
          simp only [Act.put, sqA, sqB, sqC]
          refine rO 11 2 rfl hD ?_; clear hD; intro K11 hK11
          go_wp2_with fail
          refine (HCH.out _).mono ?_
          rintro ev w5 ⟨rfl, hb⟩
          have HB11 := Lib.hid hb
          clear hb
          go_wp2
          refine hK11 _ _ (by exact Below.trans hS_6_8 (Below.mono HB11.out (Below.size hS_6_8))) ?_; clear hK11; intro hS_6_11 hD
          have HL := Lib.hid hS_6_11
          refine rP 14 34 1 rfl hD hS_6_11 ?_; clear hD; intro hD; simp only [Act.put, sqA, sqB, sqC]
          refine rP 15 35 0 rfl hD hS_6_11 ?_; clear hD; intro hD; simp only [Act.put, sqA, sqB, sqC]
          refine wpAnyK_done (by kernel_rfl) ?_ 0
          clear hD
          go_wp2
          go_ret
          exact ⟨rfl, (HXD.out.next HL.out).1.2⟩
      · have HV3 := Lib.hid (show veK M O G Y c r msg = 19 from by
          rw [HV.out]
          by_cases h1 : num c < num O
          · rw [decide_eq_true h1, decide_eq_false (fun h2 => hbl ⟨h1, h2⟩)]; rfl
          · rw [decide_eq_false h1]; rfl)
        rw [decide_eq_false hbl] at HBL
        rw [HV3.out]
        unfold kV at *
        clear hv hk vc vr hv4 hck hz hg hy v1 v2 v3 v4 h8 hbl HV hM hO hG hY hc hr hm
        go_enter Tryz.func32, Tryz.ntmps32
        go_wp2_with fail
        try rw [hW0]
        clear hW0
        refine (HCK.out _).mono ?_
        rintro ev w1 ⟨rfl, hb⟩
        have HX1 := Lib.hid (HX0.out.next hb)
        clear hb c0 c1 c2 c3 s0 s1
        obtain ⟨c0, c1, c2, c3⟩ := HX1.out.1.1.cells
        have s0 := HX1.out.2.c0
        have s1 := HX1.out.2.c1
        have HX2 := Lib.hid (HX1.out.next ((Below.refl w1.heap.size w1).alloc (Nat.le_refl _) (.cells #[.string c, .string r] 22)))
        go_wp2_with fail
        refine (HFM.out _).mono ?_
        rintro ev w2 ⟨rfl, rfl⟩
        clear c0 c1 c2 c3 s0 s1
        go_wp2
        obtain ⟨wd, hwd⟩ : ∃ wd, World.drew (w1.alloc (.cells #[.string c, .string r] 22)) = wd := ⟨_, rfl⟩
        have HXD := Lib.hid (show SG w wd M O G Y c r from by rw [← hwd]; exact HX2.out.next (Below.refl _ _).drew)
        obtain ⟨k0, k1, k2, k3⟩ := HXD.out.1.1.cells
        have t0 := HXD.out.2.c0
        have t1 := HXD.out.2.c1
        refine wp_region_K 16 (Below (wd).heap.size (wd)) (by kernel_rfl) ?_
        intro hD
        rw [hwd]
        have KK3 := Lib.hid (fun w' (hS' : (Below (wd).heap.size (wd)) w') => And.intro (kC hS' k0) (And.intro (kC hS' k1) (And.intro (kC hS' k2) (And.intro (kC hS' k3) (And.intro (kC hS' t0) (kC hS' t1))))))
        refine rT 0 20 15 rfl hD (Below.refl _ _) (by intro w' hS'; obtain ⟨e0, e1, e2, e3, e4, e5⟩ := KK3.out w' hS'; go_simp; with_reducible rfl) ?_; clear hD; intro hD; simp only [Act.put, sqA, sqB, sqC]
        refine rT 1 21 14 rfl hD (Below.refl _ _) (by intro w' hS'; obtain ⟨e0, e1, e2, e3, e4, e5⟩ := KK3.out w' hS'; go_simp; with_reducible rfl) ?_; clear hD; intro hD; simp only [Act.put, sqA, sqB, sqC]
        refine rO 2 13 rfl hD ?_; clear hD; intro K2 hK2
        go_wp2_with fail
        refine (HBL.out _).mono ?_
        rintro ev w3 ⟨rfl, hb⟩
        have HB2 := Lib.hid hb
        clear hb
        go_wp2
        refine hK2 _ _ (by exact HB2.out) ?_; clear hK2; intro hS_6_2 hD
        have HL := Lib.hid hS_6_2
        refine rP 3 23 12 rfl hD hS_6_2 ?_; clear hD; intro hD; simp only [Act.put, sqA, sqB, sqC]
        refine rP 4 24 11 rfl hD hS_6_2 ?_; clear hD; intro hD; simp only [Act.put, sqA, sqB, sqC]
        refine rU 5 25 10 rfl hD hS_6_2 ?_; clear hD; intro hD; simp only [Act.put, sqA, sqB, sqC]
        refine rU 6 26 9 rfl hD hS_6_2 ?_; clear hD; intro hD; simp only [Act.put, sqA, sqB, sqC]
        refine rU 7 27 8 rfl hD hS_6_2 ?_; clear hD; intro hD; simp only [Act.put, sqA, sqB, sqC]
        refine rU 8 28 7 rfl hD hS_6_2 ?_; clear hD; intro hD; simp only [Act.put, sqA, sqB, sqC]
        refine rU 9 29 6 rfl hD hS_6_2 ?_; clear hD; intro hD; simp only [Act.put, sqA, sqB, sqC]
        refine rU 10 30 5 rfl hD hS_6_2 ?_; clear hD; intro hD; simp only [Act.put, sqA, sqB, sqC]
        refine rU 11 31 4 rfl hD hS_6_2 ?_; clear hD; intro hD; simp only [Act.put, sqA, sqB, sqC]
        refine rU 12 32 3 rfl hD hS_6_2 ?_; clear hD; intro hD; simp only [Act.put, sqA, sqB, sqC]
        refine rU 13 33 2 rfl hD hS_6_2 ?_; clear hD; intro hD; simp only [Act.put, sqA, sqB, sqC]
        refine rU 14 34 1 rfl hD hS_6_2 ?_; clear hD; intro hD; simp only [Act.put, sqA, sqB, sqC]
        refine rP 15 35 0 rfl hD hS_6_2 ?_; clear hD; intro hD; simp only [Act.put, sqA, sqB, sqC]
        refine wpAnyK_done (by kernel_rfl) ?_ 0
        clear hD
        go_wp2
        go_ret
        exact ⟨rfl, (HXD.out.next HL.out).1.2⟩
  · rw [show veK M O G Y c r msg = scK M O G Y from if_neg hk]
    obtain ⟨e, he⟩ : ∃ e, scK M O G Y = e := ⟨_, rfl⟩
    rw [he] at HCK hk ⊢
    unfold kV at *
    clear he
    go_enter Tryz.func32, Tryz.ntmps32
    go_wp2_with fail
    try rw [hW0]
    clear hW0
    refine (HCK.out _).mono ?_
    rintro ev w1 ⟨rfl, hb⟩
    have HX1 := Lib.hid (HX0.out.next hb)
    clear hb c0 c1 c2 c3 s0 s1
    obtain ⟨c0, c1, c2, c3⟩ := HX1.out.1.1.cells
    have s0 := HX1.out.2.c0
    have s1 := HX1.out.2.c1
    go_upto_region 3 with (fail)
    clear hk
    go_wp2
    go_ret
    exact ⟨rfl, HX1.out.1.2⟩
end Go.Proofs.YtndmjfkmnjejkaaGreatDoor

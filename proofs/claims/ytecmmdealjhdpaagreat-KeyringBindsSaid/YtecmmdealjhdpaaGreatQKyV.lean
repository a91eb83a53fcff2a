/- What a version's message is; walk: keyring.Message. -/
import Derived.Test.YtecmmdealjhdpaaGreatQKyS
import Derived.Test.YtecmmdealjhdpaaGreatQNatB
import Derived.Test.YtecmmdealjhdpaaGreatQNum2
set_option linter.unusedVariables false
set_option linter.unusedSimpArgs false
namespace Go.Proofs.YtecmmdealjhdpaaGreat
open Go.RowKit Go.Shelf
attribute [local go_sem] Oper.semAt_some
def Ver.okN (v : Ver) : Bool := v.nums.all nvalid
def Ver.far (v : Ver) : Prop := v.num < 1 ∨ 4096 < v.num ∨ v.fr < 0 ∨ v.to < v.fr ∨ 4096 < v.to
instance (v : Ver) : Decidable v.far := by unfold Ver.far; exact inferInstance
def txt (a : ByteArray) : It := .mk 1 ⟨#[]⟩ a []
def lst (l : List It) : It := .mk 2 ⟨#[]⟩ ⟨#[]⟩ l
def Ver.kit (v : Ver) : It := lst [natIt v.km, natIt v.ko, natIt v.kz, natIt v.ks, lst (v.kr.map natIt), natIt v.ku, natIt v.kh]
def Ver.sit (v : Ver) : It := lst ([v.sm, v.so, v.sg, v.sy].map natIt)
def Ver.it (v : Ver) : It := lst [txt ⟨#[118, 101, 114, 115, 105, 111, 110]⟩, txt v.name, natIt (bstr (encN v.num.toNat)), v.kit, v.sit, natIt (bstr (encN v.fr.toNat)), natIt (bstr (encN v.to.toNat))]
def Ver.msg (v : Ver) : ByteArray × Int := if v.okN = false then (⟨#[]⟩, 3) else if (knameB v.name && decide (v.kn = v.name)) = false then (⟨#[]⟩, 1) else if v.far then (⟨#[]⟩, 2) else encS v.it
theorem bxC_own {β : Type} (B : Nat) (cs : Array Value) (T : TypeId) : Own (fun (_ : β) W => BxC W B cs T) := fun s X Y row hs hg hrow => by
  refine (hg.block B hs.lt (fun e => ?_)).trans hs
  obtain ⟨o, ho, hc⟩ := hrow B e.symm
  rw [show X.heap[B]? = _ from hs] at ho
  cases ho
  cases hc
theorem KeepsOthers.below {W W' : World} (h : Below W.heap.size W W') : KeepsOthers W W' := ⟨h.size, fun k o hk _ => (h.block k (block_lt hk)).trans hk⟩
set_option maxRecDepth 100000 in
theorem ky_numbers (cs : Array Value) (w : World) : Calls Tryz.prog 15 #[.agg cs] w fun e w' => e = .returned (.func (.func 33) #[] #[.pointer (some ⟨w.heap.size, 0, none⟩)]) ∧ w' = w.alloc (.cells cs 35) := by
  go_enter Tryz.func15, Tryz.ntmps15
  go_wp2
  go_ret
  exact ⟨rfl, rfl⟩
theorem putObj_cell {W : World} {D B k : Nat} {cs : Array Value} {T : TypeId} (o : Obj) (h : BxC W B cs T) (hne : B ≠ D) : (W.putObj D o).cell? ⟨B, k, none⟩ = cs[k]? := by
  rw [Lib.cell_of_heap ((World.putObj_heap_other hne).trans h)]
theorem kpC_putObj (W : World) (l : Nat) (o o' : Obj) (hl : W.heap[l]? = some o) (hc : o.isCells = false) : KpC W (W.putObj l o') := fun b cs T fr hb => by
  by_cases e : b = l
  · subst e
    rw [hl] at hb
    cases hb
    cases hc
  · rw [World.putObj_heap_other e]; exact hb
theorem below_allocK {W W' : World} {o : Obj} (h : W' = W.alloc o) : Below W.heap.size W W' := by rw [h]; exact (Below.refl _ _).alloc (Nat.le_refl _) _
theorem bxc_alloc {W W' : World} {cs : Array Value} {T : TypeId} (h : W' = W.alloc (.cells cs T)) : BxC W' W.heap.size cs T := by rw [h]; exact BxC.new _ _ _
def itZ : Array Value := #[.int .i64 0, .string ⟨#[]⟩, .string ⟨#[]⟩, .slice none 0 0]
theorem wpList_alloc_item {ops : Array Oper} {rest : List Oper} {o : Oper} {a : Act} {w : World} {Q : Exit → Act → World → Prop} (hg : o.guard = none) (d : Option Tmp) (hd : o.dst = d) (hop : ∀ ρ : Operand → Value, (execOp ρ o).run Tryz.prog w = .ok (.value (.pointer (some ⟨w.heap.size, 0, none⟩))) (w.alloc (.cells itZ 60)))
    (h : ∀ (B : Nat) (W' : World), B = w.heap.size → BxC W' B itZ 60 → Below w.heap.size w W' → wpList Tryz.prog ops Q rest (a.put d (.pointer (some ⟨B, 0, none⟩))) W') : wpList Tryz.prog ops Q (o :: rest) a w :=
  Great.wpList_allocTo hg d hd _ _ (hop a.eval) (h w.heap.size _ rfl (BxC.new _ _ _) ((Below.refl _ _).alloc (Nat.le_refl _) _))
def GI (W0 : World) (J : (Nat → Prop) → World → Prop) (b : Bool) (x : Value) (w : World) : Prop :=
  Below W0.heap.size W0 w ∧ (b = true → ∃ B, x = .pointer (some ⟨B, 0, none⟩) ∧ W0.heap.size ≤ B ∧ BxC w B itZ 60 ∧ J (fun c => c ≠ B) w) ∧ (b = false → J (fun c => c < w.heap.size) w)
theorem GI.step {W0 w w' : World} {J J' : (Nat → Prop) → World → Prop} {b : Bool} {x : Value} (h : GI W0 J b x w) (hb : Below w.heap.size w w') (h1 : ∀ ok : Nat → Prop, (∀ c, w.heap.size ≤ c → ok c) → J ok w → J' ok w') (h2 : J (fun c => c < w.heap.size) w → J' (fun c => c < w'.heap.size) w') : GI W0 J' b x w' := by
  refine ⟨h.1.trans (hb.mono h.1.size), fun e => ?_, fun e => h2 (h.2.2 e)⟩
  obtain ⟨B, rfl, hB, hz, hJ⟩ := h.2.1 e
  have := hz.lt
  exact ⟨B, rfl, hB, hz.next hb, h1 _ (fun c hc => by omega) hJ⟩
theorem GI.get {W0 w : World} {J : (Nat → Prop) → World → Prop} {b : Bool} {x : Value} {p : Prop} (h : GI W0 J b x w) (hp : ∀ ok, J ok w → p) : p := by
  cases b with
  | true => obtain ⟨B, _, _, _, hJ⟩ := h.2.1 rfl; exact hp _ hJ
  | false => exact hp _ (h.2.2 rfl)
theorem alloc_itemK {ops : Array Oper} {o : Oper} {a : Act} {Q : Exit → Act → World → Prop} {d : Tmp} (hg : o.guard = none) (hd : o.dst = some d) (hop : ∀ (w : World) (ρ : Operand → Value), (execOp ρ o).run Tryz.prog w = .ok (.value (.pointer (some ⟨w.heap.size, 0, none⟩))) (w.alloc (.cells itZ 60)))
    {W0 : World} {J : (Nat → Prop) → World → Prop} (hJ : ∀ w w' : World, Below w.heap.size w w' → J (fun c => c < w.heap.size) w → J (fun c => c ≠ w.heap.size) w') :
    ∀ w, GI W0 J false undef w → ∀ K : Act → World → Prop, (∀ x w', GI W0 J true x w' → K (a.put (some d) x) w') → wpList Tryz.prog ops (EndK K Q) [o] a w := fun w h K hK =>
  wpList_alloc_item hg (some d) hd (hop w) fun B w' hB hz hb => hK _ w' ⟨h.1.trans (hb.mono h.1.size), fun _ => ⟨B, rfl, by rw [hB]; exact h.1.size, hz, by rw [hB]; exact hJ w w' hb (h.2.2 rfl)⟩, fun e => by cases e⟩
theorem row7 {w : World} {T : TypeId} {fr : Nat × Nat} {b : Nat} {k0 k1 k2 k3 k4 k5 k6 : Int} {n0 n1 n2 n3 n4 n5 n6 t0 t1 t2 t3 t4 t5 t6 : ByteArray} {A3 A4 : Option Addr} {l3 c3 l4 c4 : Nat} {i3 i4 : List It} {ok3 ok4 : Nat → Prop}
    (hb : w.heap[b]? = some (.cells #[.int .i64 k0, .string n0, .string t0, .slice none 0 0, .int .i64 k1, .string n1, .string t1, .slice none 0 0, .int .i64 k2, .string n2, .string t2, .slice none 0 0, .int .i64 k3, .string n3, .string t3, .slice A3 l3 c3, .int .i64 k4, .string n4, .string t4, .slice A4 l4 c4, .int .i64 k5, .string n5, .string t5, .slice none 0 0, .int .i64 k6, .string n6, .string t6, .slice none 0 0] T fr))
    (h3 : SlAt w ok3 A3 l3 c3 i3) (h4 : SlAt w ok4 A4 l4 c4 i4) :
    SlAt w (fun _ => True) (some ⟨b, 0, none⟩) 7 7 [.mk k0 n0 t0 [], .mk k1 n1 t1 [], .mk k2 n2 t2 [], .mk k3 n3 t3 i3, .mk k4 n4 t4 i4, .mk k5 n5 t5 [], .mk k6 n6 t6 []] := by
  have hc := fun k => Lib.cell_of_heap hb (j := k)
  refine ⟨rfl, Nat.le_refl _, by omega, b, 0, fun _ => ⟨rfl, trivial⟩, ?_⟩
  exact ⟨CellsAt.mk' (hc 0) (hc 1) (hc 2) (hc 3) (SlAt.nil _ _), CellsAt.mk' (hc 4) (hc 5) (hc 6) (hc 7) (SlAt.nil _ _), CellsAt.mk' (hc 8) (hc 9) (hc 10) (hc 11) (SlAt.nil _ _), CellsAt.mk' (hc 12) (hc 13) (hc 14) (hc 15) (h3.low (fun _ _ => trivial)), CellsAt.mk' (hc 16) (hc 17) (hc 18) (hc 19) (h4.low (fun _ _ => trivial)), CellsAt.mk' (hc 20) (hc 21) (hc 22) (hc 23) (SlAt.nil _ _), CellsAt.mk' (hc 24) (hc 25) (hc 26) (hc 27) (SlAt.nil _ _), trivial⟩
theorem SlAt.row {w : World} {ok : Nat → Prop} {A : Option Addr} {n c : Nat} {l : List It} (h : SlAt w ok A n c l) {B : Nat} (hB : ∀ b, ok b → b ≠ B) (cs : Array Value) : SlAt (w.setRow B cs) ok A n c l := h.keep (fun b hb _ => setRow_other _ _ _ _ (hB b hb))
theorem set_cons_9 {α : Type} (a0 a1 a2 a3 a4 a5 a6 a7 a8 : α) (l : List α) (n : Nat) (v : α) : (a0 :: a1 :: a2 :: a3 :: a4 :: a5 :: a6 :: a7 :: a8 :: l).set (n + 9) v = a0 :: a1 :: a2 :: a3 :: a4 :: a5 :: a6 :: a7 :: a8 :: l.set n v := rfl
theorem natIt_weight (l : List ByteArray) (h : ∀ s ∈ l, s.size ≤ 128) : Its.weight (l.map natIt) ≤ l.length * 139 := by
  induction l with
  | nil => simp [Its.weight]
  | cons a l ih =>
    have h1 := ih (fun s hs => h s (List.mem_cons_of_mem _ hs))
    have h2 := h a List.mem_cons_self
    have e1 : (⟨#[]⟩ : ByteArray).size = 0 := rfl
    simp only [List.map_cons, Its.weight, natIt, It.weight, List.length_cons] at h1 ⊢
    omega
theorem valid_sz {s : ByteArray} (h : nvalid s = true) : s.size ≤ 128 := by
  unfold nvalid at h
  simp only [Bool.and_eq_true, decide_eq_true_eq] at h
  exact h.1
theorem Ver.it_weight {v : Ver} (hv : v.okN = true) (hn : v.kr.length ≤ 100) (hs : v.name.size ≤ 32) (h1 : v.num.toNat ≤ 4096) (h2 : v.fr.toNat ≤ 4096) (h3 : v.to.toNat ≤ 4096) : v.it.weight ≤ 1000000000 ∧ Its.nodes v.it.list ≤ 1000000000000 := by
  have hall : ∀ s ∈ v.nums, s.size ≤ 128 := fun s h => valid_sz (by unfold Ver.okN at hv; rw [List.all_eq_true] at hv; exact hv s h)
  have hw := natIt_weight v.kr (fun s h => hall s (List.mem_append.2 (.inr h)))
  have g : ∀ s ∈ v.ten, s.size ≤ 128 := fun s h => hall s (List.mem_append.2 (.inl h))
  simp only [Ver.ten, List.mem_cons, List.mem_nil_iff, or_false, forall_eq_or_imp, forall_eq] at g
  obtain ⟨g1, g2, g3, g4, g5, g6, g7, g8, g9, g10⟩ := g
  have e0 : (⟨#[]⟩ : ByteArray).size = 0 := rfl
  have e1 : (⟨#[118, 101, 114, 115, 105, 111, 110]⟩ : ByteArray).size = 7 := rfl
  have n1 : (encN v.num.toNat).length ≤ 8 := encN_length_le.2 (by omega)
  have n2 : (encN v.fr.toNat).length ≤ 8 := encN_length_le.2 (by omega)
  have n3 : (encN v.to.toNat).length ≤ 8 := encN_length_le.2 (by omega)
  have hnd := natIt_nodes v.kr
  constructor
  · generalize hq : List.map natIt v.kr = q at *
    simp only [Ver.it, Ver.kit, Ver.sit, lst, txt, hq, It.weight, Its.weight, List.map_cons, List.map_nil]
    simp only [natIt, It.weight, Its.weight, bstr_size, e0, e1]
    omega
  · generalize hq : List.map natIt v.kr = q at *
    simp only [Ver.it, Ver.kit, Ver.sit, lst, txt, hq, It.list, It.nodes, Its.nodes, List.map_cons, List.map_nil]
    simp only [natIt, It.nodes, Its.nodes]
    omega
set_option maxRecDepth 100000 in
set_option maxHeartbeats 4000000 in
theorem ky_Message (v : Ver) (A : Option Addr) (n c : Nat) (w : World) (hs : SlN w A n c v.kr) (hn : n ≤ 100) (hz : SzL v.str) : Calls Tryz.prog 7 #[.agg (v.arr (.slice A n c))] w (RetSE v.msg w) := by
  have hzn : SzL v.nums := fun s h => hz s (by simp only [Ver.nums, Ver.ten, Ver.str, Ver.keyStr, List.mem_append, List.mem_cons, List.mem_nil_iff, or_false] at h ⊢; rcases h with (h | h | h | h | h | h | h | h | h | h) | h <;> simp [h])
  have HST := Lib.hid (fun k hk D w hD hS => numbers_stops k hk v A n c hzn D w hD hS (by omega))
  obtain ⟨cs, hcs⟩ : ∃ cs, v.arr (.slice A n c) = cs := ⟨_, rfl⟩
  rw [hcs] at HST ⊢
  have HCS := Lib.hid (show cs.size = 18 from by rw [← hcs]; rfl)
  have HVA := Lib.hid hcs
  have HSW := Lib.hid hs
  have HZ := Lib.hid hz
  have HZN := Lib.hid hzn
  obtain ⟨W0, hW0⟩ : ∃ W0, ((w.alloc (.cells cs 35)).alloc (.cells #[.string ⟨#[]⟩] 9)).alloc (.cells #[.int .i64 0] 39) = W0 := ⟨_, rfl⟩
  have HX0 := Lib.hid (show BxC W0 w.heap.size cs 35 from by rw [← hW0]; exact ((BxC.new w _ _).alloc _).alloc _)
  have HE0 := Lib.hid (show BxC W0 (w.heap.size + 1) #[.string ⟨#[]⟩] 9 from by rw [← hW0]; exact (BxC.new1 w _ _ _).alloc _)
  have HF0 := Lib.hid (show BxC W0 (w.heap.size + 1 + 1) #[.int .i64 0] 39 from by
    rw [← hW0]
    have := BxC.new1 (w.alloc (.cells cs 35)) #[.int .i64 0] 39 (.cells #[.string ⟨#[]⟩] 9)
    rwa [World.size_alloc] at this)
  have HB0 := Lib.hid (show Below w.heap.size w W0 from by rw [← hW0]; exact (((Below.refl _ _).alloc (Nat.le_refl _) _).alloc (by simp) _).alloc (by simp; omega) _)
  have hsz0 : W0.heap.size = w.heap.size + 1 + 1 + 1 := by rw [← hW0]; simp
  clear hs hz hzn hcs
  refine (callsIn_wide (n := 3)).1 ?_
  refine callsIn_of_wp_marks Tryz.func7 rfl trivial ?_ rfl
  simp only [Tryz.ntmps7, List.size_toArray, List.length_cons, List.length_nil, Nat.reduceAdd, Nat.reduceSub, Array.replicate_succ, Array.replicate_zero, List.push_toArray, List.append_toArray, List.nil_append, List.cons_append]
  refine wpIn_wide.2 ?_
  go_upto_region 1 with fail
  try rw [hW0]
  clear hW0
  refine wp_region_lit ?_
  refine wpList_load_row rfl 35 _ rfl w.heap.size rfl 35 cs (0, 0) _ HX0.out Tryz.underlying35 rfl (by rw [HCS.out]; kernel_rfl) ?_
  go_wp2_with fail
  refine (ky_numbers cs _).mono ?_
  rintro e w1 ⟨rfl, rfl⟩
  have HD1 := Lib.hid (BxC.new W0 cs 35)
  have HX1 := Lib.hid (HX0.out.alloc (.cells cs 35))
  have HE1 := Lib.hid (HE0.out.alloc (.cells cs 35))
  have HF1 := Lib.hid (HF0.out.alloc (.cells cs 35))
  have HB1 := Lib.hid (HB0.out.alloc HB0.out.size (.cells cs 35))
  have hsz1 : (W0.alloc (.cells cs 35)).heap.size = w.heap.size + 1 + 1 + 1 + 1 := by rw [World.size_alloc, hsz0]
  obtain ⟨W1, hW1⟩ : ∃ W1, W0.alloc (.cells cs 35) = W1 := ⟨_, rfl⟩
  obtain ⟨D, hD⟩ : ∃ D, W0.heap.size = D := ⟨_, rfl⟩
  rw [hW1] at HD1 HX1 HE1 HF1 HB1 hsz1 ⊢
  rw [hD] at HD1 ⊢
  have HSZ1 := Lib.hid hsz1
  clear hW1 hD hsz0 hsz1 HX0 HE0 HF0 HB0
  dsimp only
  go_wp2
  rename_i K5 hK5
  obtain ⟨R, hR⟩ : ∃ R, w.heap.size = R := ⟨_, rfl⟩
  rw [hR] at HX1 HE1 HF1 HSZ1 ⊢
  have HR := Lib.hid hR
  clear hR
  refine (wpIn_wide (n := 3)).1 ?_
  refine wpIn_rangeFunc_ownF rfl (by omega) (gf := 33) (lb := #[.pointer (some ⟨D, 0, none⟩)]) rfl trivial (enters_of Tryz.func33 (by kernel_rfl) rfl)
    (HST.out 2 (by omega) D W1 HD1.out (HSW.out.kept HB1.out (Nat.le_refl _))) (fun h k => KpC.trans h k) (fun W l o o' _ hl hc _ => kpC_putObj W l o o' hl hc) (Below.refl _ _) (fun _ => rfl)
    (fun pre W => (BxC W R cs 35 ∧ BxC W (R + 1) #[.string ⟨#[]⟩] 9 ∧ BxC W (R + 1 + 1) #[.int .i64 0] 39) ∧ (∀ x ∈ pre, nvalid x.val = true) ∧ Below w.heap.size w W)
    (fun c pre W => c = .ret ∧ (∃ x ∈ pre, nvalid x.val = false) ∧ (BxC W (R + 1) #[.string ⟨#[]⟩] 9 ∧ BxC W (R + 1 + 1) #[.int .i64 3] 39) ∧ Below w.heap.size w W)
    (OwnFrom.and (Own.from (fun s X Y row hs hg hr => ⟨bxC_own R cs 35 s X Y row hs.1 hg hr, bxC_own (R + 1) _ 9 s X Y row hs.2.1 hg hr, bxC_own (R + 1 + 1) _ 39 s X Y row hs.2.2 hg hr⟩) _) (OwnFrom.and (fun _ _ _ _ hs _ _ => hs) (ownFrom_below (by have := HSZ1.out; omega) (by have := HSZ1.out; have := HR.out; omega))))
    (fun _ => OwnFrom.and (fun _ _ _ _ hs _ _ => hs) (OwnFrom.and (fun _ _ _ _ hs _ _ => hs) (OwnFrom.and (Own.from (fun s X Y row hs hg hr => ⟨bxC_own (R + 1) _ 9 s X Y row hs.1 hg hr, bxC_own (R + 1 + 1) _ 39 s X Y row hs.2 hg hr⟩) _) (ownFrom_below (by have := HSZ1.out; omega) (by have := HSZ1.out; have := HR.out; omega)))))
    ⟨⟨HX1.out, HE1.out, HF1.out⟩, (fun _ h => by cases h), HB1.out⟩
    (fun x => { tmps := #[.agg cs, .pointer (some ⟨R, 0, none⟩), .pointer (some ⟨R + 1, 0, none⟩), .pointer (some ⟨R + 1 + 1, 0, none⟩), .string x.val, undef, undef, undef, undef, .agg cs, .func (.func 33) #[] #[.pointer (some ⟨D, 0, none⟩)], .string x.val, undef, undef, undef, undef, undef, undef, undef, undef, undef, undef, undef, undef, undef, undef, undef, undef, undef, undef, undef, undef, undef, undef, undef, undef, undef, undef, undef, undef, undef, undef, undef, undef, undef, undef, undef, undef, undef, undef, undef, undef, undef, undef, undef, undef, undef, undef, undef, undef, undef, undef, undef, undef, undef, undef, undef, undef, undef, undef, undef, undef, undef, undef, undef, undef, undef, undef, undef, undef, undef, undef, undef, undef, undef, undef, undef, undef, undef, undef, undef, undef, undef, undef, undef, undef, undef, undef, undef, undef, undef, undef, undef, undef, undef, undef, undef, undef, undef, undef, undef, undef, undef, undef], defers := [] }) ?assign ?body ?done ?stop
  case assign =>
    intro l x W K hK
    gi_wp2
    exact hK
  case body =>
    rintro l pre x W ⟨⟨hX, hE, hF⟩, hall, hB⟩ _
    have HX := Lib.hid hX
    have HE := Lib.hid hE
    have HF := Lib.hid hF
    have HB := Lib.hid hB
    have HALL := Lib.hid hall
    have cE : W.cell? ⟨R + 1, 0, none⟩ = some (.string ⟨#[]⟩) := hE.cell 0
    have fE := hE.free 0
    have cF : W.cell? ⟨R + 1 + 1, 0, none⟩ = some (.int .i64 0) := hF.cell 0
    have fF := hF.free 0
    clear hX hE hF hB hall
    cases hv : nvalid x.val with
    | true =>
      have HV := Lib.hid hv
      clear hv cE fE cF fF
      gi_wp2
      refine ⟨trivial, CallsIn.inRound l (callsIn_wide.2 ((nat_Valid x.val x.2 _).mono ?_))⟩
      rintro ev w6 ⟨rfl, rfl⟩
      rw [HV.out]
      gi_wp2
      exact ⟨KeepsOthers.below (Below.refl _ _), KpC.refl _, ⟨HX.out, HE.out, HF.out⟩, (fun y hy => by
        rcases List.mem_append.1 hy with h | h
        · exact HALL.out y h
        · rw [List.mem_singleton.1 h]; exact HV.out), HB.out⟩
    | false =>
      have HV := Lib.hid hv
      have HKK := Lib.hid ((KeepsOthers.setCell W ⟨R + 1, 0, none⟩ (.string ⟨#[]⟩)).trans (KeepsOthers.setCell (W.setCell ⟨R + 1, 0, none⟩ (.string ⟨#[]⟩)) ⟨R + 1 + 1, 0, none⟩ (.int .i64 3)))
      have HE2 := Lib.hid ((HE.out.set (k := 0) (.string ⟨#[]⟩)).other (C := R + 1 + 1) (k := 0) (by omega) (.int .i64 3))
      have HF2 := Lib.hid ((HF.out.other (C := R + 1) (k := 0) (by omega) (.string ⟨#[]⟩)).set (k := 0) (.int .i64 3))
      have HBB2 := Lib.hid ((HB.out.setCell (p := ⟨R + 1, 0, none⟩) (by have := HR.out; simp only []; omega) (.string ⟨#[]⟩)).setCell (p := ⟨R + 1 + 1, 0, none⟩) (by have := HR.out; simp only []; omega) (.int .i64 3))
      clear hv
      gi_wp2
      refine ⟨trivial, CallsIn.inRound l (callsIn_wide.2 ((nat_Valid x.val x.2 _).mono ?_))⟩
      rintro ev w6 ⟨rfl, rfl⟩
      rw [HV.out]
      gi_wp2
      exact ⟨HKK.out, rfl, ⟨x, by simp, HV.out⟩, ⟨HE2.out, HF2.out⟩, HBB2.out⟩
  case stop =>
    rintro D' c' pre W hD' hSp ⟨rfl, ⟨x, hx, hv⟩, ⟨hE, hF⟩, hB⟩ hK
    have HM := Lib.hid (show v.msg = (⟨#[]⟩, 3) from by
      have : v.okN = false := by
        unfold Ver.okN
        rw [List.all_eq_false]
        exact ⟨x.val, hSp.subset (List.mem_map.2 ⟨x, hx, rfl⟩), by rw [hv]; decide⟩
      unfold Ver.msg
      rw [if_pos this])
    have HE := Lib.hid hE
    have HF := Lib.hid hF
    have HB := Lib.hid hB
    have HK := Lib.hid hK
    have hdl := block_lt hK
    clear hE hF hB hK hSp hx hv
    gi_wp2
    refine ⟨by simp, .inl ⟨_, _, rfl, run_takeDeferred HK.out, ?_⟩⟩
    have hsz1 := HSZ1.out
    have hrr := HR.out
    have e1 : (W.putObj D' (.deferred none)).cell? ⟨R + 1, 0, none⟩ = some (.string ⟨#[]⟩) := (putObj_cell (k := 0) _ HE.out (by omega)).trans rfl
    have e2 : (W.putObj D' (.deferred none)).cell? ⟨R + 1 + 1, 0, none⟩ = some (.int .i64 3) := (putObj_cell (k := 0) _ HF.out (by omega)).trans rfl
    exact ⟨.tuple #[.string ⟨#[]⟩, .int .i64 3], by simp [results, Tryz.results7, go_sem, e1, e2], by rw [HM.out], HB.out.trans (belowK_b (w := w) (Nat.le_refl _) W D' _ _ (by omega) HK.out rfl rfl)⟩
  case done =>
    rintro D' ys W hD' hys ⟨⟨hX, hE, hF⟩, hall, hB⟩ hK
    have HOK := Lib.hid (show v.okN = true from by
      unfold Ver.okN
      rw [List.all_eq_true]
      intro s hs
      rw [← hys] at hs
      obtain ⟨x, hx, rfl⟩ := List.mem_map.1 hs
      exact hall x hx)
    have HX := Lib.hid hX
    have HE := Lib.hid hE
    have HF := Lib.hid hF
    have HB := Lib.hid hB
    have HK := Lib.hid hK
    have HDL := Lib.hid hD'
    have x2 : W.drew.cell? ⟨R, 2, none⟩ = some (.string v.kn) := (hX.cell 2).trans (by rw [← HVA.out]; rfl)
    have x3 : W.drew.cell? ⟨R, 3, none⟩ = some (.string v.km) := (hX.cell 3).trans (by rw [← HVA.out]; rfl)
    have x4 : W.drew.cell? ⟨R, 4, none⟩ = some (.string v.ko) := (hX.cell 4).trans (by rw [← HVA.out]; rfl)
    have x5 : W.drew.cell? ⟨R, 5, none⟩ = some (.string v.kz) := (hX.cell 5).trans (by rw [← HVA.out]; rfl)
    have x6 : W.drew.cell? ⟨R, 6, none⟩ = some (.string v.ks) := (hX.cell 6).trans (by rw [← HVA.out]; rfl)
    have x7 : W.drew.cell? ⟨R, 7, none⟩ = some (.slice A n c) := (hX.cell 7).trans (by rw [← HVA.out]; rfl)
    have x8 : W.drew.cell? ⟨R, 8, none⟩ = some (.string v.ku) := (hX.cell 8).trans (by rw [← HVA.out]; rfl)
    have x9 : W.drew.cell? ⟨R, 9, none⟩ = some (.string v.kh) := (hX.cell 9).trans (by rw [← HVA.out]; rfl)
    have x10 : W.drew.cell? ⟨R, 10, none⟩ = some (.string v.sm) := (hX.cell 10).trans (by rw [← HVA.out]; rfl)
    have x11 : W.drew.cell? ⟨R, 11, none⟩ = some (.string v.so) := (hX.cell 11).trans (by rw [← HVA.out]; rfl)
    have x12 : W.drew.cell? ⟨R, 12, none⟩ = some (.string v.sg) := (hX.cell 12).trans (by rw [← HVA.out]; rfl)
    have x13 : W.drew.cell? ⟨R, 13, none⟩ = some (.string v.sy) := (hX.cell 13).trans (by rw [← HVA.out]; rfl)
    clear hys hall hX hE hF hB hK hD'
    refine hK5 _ _ ?_
    go_wp2
    rename_i K6 hK6
    have rest : ∀ (P Q : Nat) (W7 : World), BxC W7 P (v.key (.slice A n c)) 31 → BxC W7 Q v.sgn 26 → Below W.drew.heap.size W.drew W7 → K6 { tmps := #[.agg cs, .pointer (some ⟨R, 0, none⟩), .pointer (some ⟨R + 1, 0, none⟩), .pointer (some ⟨R + 1 + 1, 0, none⟩), undef, .pointer (some ⟨P, 0, none⟩), .pointer (some ⟨Q, 0, none⟩), undef, undef, .agg cs, .func (.func 33) #[] #[.pointer (some ⟨D, 0, none⟩)], undef, undef, undef, undef, .pointer (some ⟨R, 2, none⟩), .agg #[.string v.kn, .string v.km, .string v.ko, .string v.kz, .string v.ks, .slice A n c, .string v.ku, .string v.kh], .pointer (some ⟨R, 10, none⟩), .agg #[.string v.sm, .string v.so, .string v.sg, .string v.sy], undef, undef, undef, undef, undef, undef, undef, undef, undef, undef, undef, undef, undef, undef, undef, undef, undef, undef, undef, undef, undef, undef, undef, undef, undef, undef, undef, undef, undef, undef, undef, undef, undef, undef, undef, undef, undef, undef, undef, undef, undef, undef, undef, undef, undef, undef, undef, undef, undef, undef, undef, undef, undef, undef, undef, undef, undef, undef, undef, undef, undef, undef, undef, undef, undef, undef, undef, undef, undef, undef, undef, undef, undef, undef, undef, undef, undef, undef, undef, undef, undef, undef, undef, undef, undef, undef, undef, undef, undef, undef, undef, undef, undef, undef, undef], defers := [{ target := .collected D', args := #[] }] } W7 := by
      intro P Q W7 hP hQ hL
      clear x2 x3 x4 x5 x6 x7 x8 x9 x10 x11 x12 x13
      have hbW : Below W.heap.size W W7 := ((Below.refl _ _).drew).trans hL
      have HP := Lib.hid hP
      have HQ := Lib.hid hQ
      have HX7 := Lib.hid (HX.out.next hbW)
      have HE7 := Lib.hid (HE.out.next hbW)
      have HF7 := Lib.hid (HF.out.next hbW)
      have HB7 := Lib.hid (HB.out.trans (hbW.mono HB.out.size))
      have HK7 := Lib.hid (block_kept hbW (Nat.le_refl _) HK.out)
      have b0 : W7.cell? ⟨R, 0, none⟩ = some (.string v.name) := (HX7.out.cell 0).trans (by rw [← HVA.out]; rfl)
      have b1 : W7.cell? ⟨R, 1, none⟩ = some (.int .i64 v.num) := (HX7.out.cell 1).trans (by rw [← HVA.out]; rfl)
      have b14 : W7.cell? ⟨R, 14, none⟩ = some (.int .i64 v.fr) := (HX7.out.cell 14).trans (by rw [← HVA.out]; rfl)
      have b15 : W7.cell? ⟨R, 15, none⟩ = some (.int .i64 v.to) := (HX7.out.cell 15).trans (by rw [← HVA.out]; rfl)
      have p0 : W7.cell? ⟨P, 0, none⟩ = some (.string v.kn) := hP.cell 0
      have cE : W7.cell? ⟨R + 1, 0, none⟩ = some (.string ⟨#[]⟩) := HE7.out.cell 0
      have fE := HE7.out.free 0
      have cF : W7.cell? ⟨R + 1 + 1, 0, none⟩ = some (.int .i64 0) := HF7.out.cell 0
      have fF := HF7.out.free 0
      have hzn : v.name.size ≤ 9223372036854775807 := HZ.out _ (by simp [Ver.str])
      clear hP hQ hL hbW HX HE HF HB HK
      refine hK6 _ _ ?_
      cases h1 : knameB v.name with
      | false =>
        have HM := Lib.hid (show v.msg = (⟨#[]⟩, 1) from by unfold Ver.msg; rw [HOK.out, h1]; rfl)
        have H1 := Lib.hid h1
        clear h1
        go_wp2_with fail
        refine (ky_isName v.name _ hzn).mono ?_
        rintro e w8 ⟨rfl, rfl⟩
        rw [H1.out]
        go_wp2
        have HE8 := Lib.hid ((HE7.out.set (k := 0) (.string ⟨#[]⟩)).other (C := R + 1 + 1) (k := 0) (by omega) (.int .i64 1))
        have HF8 := Lib.hid ((HF7.out.other (C := R + 1) (k := 0) (by omega) (.string ⟨#[]⟩)).set (k := 0) (.int .i64 1))
        have hrr := HR.out
        have hsz1 := HSZ1.out
        have hdl := HDL.out
        have HBB8 := Lib.hid ((HB7.out.setCell (p := ⟨R + 1, 0, none⟩) (by simp only []; omega) (.string ⟨#[]⟩)).setCell (p := ⟨R + 1 + 1, 0, none⟩) (by simp only []; omega) (.int .i64 1))
        have HK8 := Lib.hid (show ((W7.setCell ⟨R + 1, 0, none⟩ (.string ⟨#[]⟩)).setCell ⟨R + 1 + 1, 0, none⟩ (.int .i64 1)).heap[D']? = some (.deferred (some [])) from by
          rw [heap_setCell_other _ _ _ _ (show D' ≠ R + 1 + 1 by omega), heap_setCell_other _ _ _ _ (show D' ≠ R + 1 by omega)]; exact HK7.out)
        obtain ⟨w9, hw9⟩ : ∃ w9, (W7.setCell ⟨R + 1, 0, none⟩ (.string ⟨#[]⟩)).setCell ⟨R + 1 + 1, 0, none⟩ (.int .i64 1) = w9 := ⟨_, rfl⟩
        rw [hw9] at HE8 HF8 HBB8 HK8
        try rw [hw9]
        refine ⟨by simp, .inl ⟨_, _, rfl, run_takeDeferred HK8.out, ?_⟩⟩
        have e1 : (w9.putObj D' (.deferred none)).cell? ⟨R + 1, 0, none⟩ = some (.string ⟨#[]⟩) := (putObj_cell (k := 0) _ HE8.out (by omega)).trans rfl
        have e2 : (w9.putObj D' (.deferred none)).cell? ⟨R + 1 + 1, 0, none⟩ = some (.int .i64 1) := (putObj_cell (k := 0) _ HF8.out (by omega)).trans rfl
        exact ⟨.tuple #[.string ⟨#[]⟩, .int .i64 1], by simp [results, Tryz.results7, go_sem, e1, e2], by rw [HM.out], HBB8.out.trans (belowK_b (w := w) (Nat.le_refl _) w9 D' _ _ (by omega) HK8.out rfl rfl)⟩
      | true =>
        have H1 := Lib.hid h1
        clear h1
        cases h2 : (v.kn.toList == v.name.toList) with
        | false =>
          have HM := Lib.hid (show v.msg = (⟨#[]⟩, 1) from by
            have hne : v.kn ≠ v.name := fun e => by rw [e] at h2; simp at h2
            unfold Ver.msg
            rw [HOK.out, H1.out, decide_eq_false hne]; rfl)
          have h2' : (v.kn.toList != v.name.toList) = true := by rw [bne, h2]; rfl
          go_wp2_with fail
          refine (ky_isName v.name _ hzn).mono ?_
          rintro e w8 ⟨rfl, rfl⟩
          rw [H1.out]
          go_wp2
          have HE8 := Lib.hid ((HE7.out.set (k := 0) (.string ⟨#[]⟩)).other (C := R + 1 + 1) (k := 0) (by omega) (.int .i64 1))
          have HF8 := Lib.hid ((HF7.out.other (C := R + 1) (k := 0) (by omega) (.string ⟨#[]⟩)).set (k := 0) (.int .i64 1))
          have hrr := HR.out
          have hsz1 := HSZ1.out
          have hdl := HDL.out
          have HBB8 := Lib.hid ((HB7.out.setCell (p := ⟨R + 1, 0, none⟩) (by simp only []; omega) (.string ⟨#[]⟩)).setCell (p := ⟨R + 1 + 1, 0, none⟩) (by simp only []; omega) (.int .i64 1))
          have HK8 := Lib.hid (show ((W7.setCell ⟨R + 1, 0, none⟩ (.string ⟨#[]⟩)).setCell ⟨R + 1 + 1, 0, none⟩ (.int .i64 1)).heap[D']? = some (.deferred (some [])) from by
            rw [heap_setCell_other _ _ _ _ (show D' ≠ R + 1 + 1 by omega), heap_setCell_other _ _ _ _ (show D' ≠ R + 1 by omega)]; exact HK7.out)
          obtain ⟨w9, hw9⟩ : ∃ w9, (W7.setCell ⟨R + 1, 0, none⟩ (.string ⟨#[]⟩)).setCell ⟨R + 1 + 1, 0, none⟩ (.int .i64 1) = w9 := ⟨_, rfl⟩
          rw [hw9] at HE8 HF8 HBB8 HK8
          try rw [hw9]
          refine ⟨by simp, .inl ⟨_, _, rfl, run_takeDeferred HK8.out, ?_⟩⟩
          have e1 : (w9.putObj D' (.deferred none)).cell? ⟨R + 1, 0, none⟩ = some (.string ⟨#[]⟩) := (putObj_cell (k := 0) _ HE8.out (by omega)).trans rfl
          have e2 : (w9.putObj D' (.deferred none)).cell? ⟨R + 1 + 1, 0, none⟩ = some (.int .i64 1) := (putObj_cell (k := 0) _ HF8.out (by omega)).trans rfl
          exact ⟨.tuple #[.string ⟨#[]⟩, .int .i64 1], by simp [results, Tryz.results7, go_sem, e1, e2], by rw [HM.out], HBB8.out.trans (belowK_b (w := w) (Nat.le_refl _) w9 D' _ _ (by omega) HK8.out rfl rfl)⟩
        | true =>
          have HEQ := Lib.hid (show v.kn = v.name from sinj (eq_of_beq h2))
          have h2' : (v.kn.toList != v.name.toList) = false := by rw [bne, h2]; rfl
          have hms : v.msg = (if v.far then (⟨#[]⟩, 2) else encS v.it) := by
            unfold Ver.msg
            rw [HOK.out, H1.out, HEQ.out, decide_eq_true rfl]; rfl
          have HMS := Lib.hid hms
          clear hms
          by_cases c1 : v.num < 1
          · skip
            skip
            have HM := Lib.hid (show v.msg = (⟨#[]⟩, 2) from by rw [HMS.out, if_pos (by unfold Ver.far; simp only [c1, true_or, or_true])])
            go_wp2_with fail
            refine (ky_isName v.name _ hzn).mono ?_
            rintro e w8 ⟨rfl, rfl⟩
            rw [H1.out]
            go_wp2
            have HE8 := Lib.hid ((HE7.out.set (k := 0) (.string ⟨#[]⟩)).other (C := R + 1 + 1) (k := 0) (by omega) (.int .i64 2))
            have HF8 := Lib.hid ((HF7.out.other (C := R + 1) (k := 0) (by omega) (.string ⟨#[]⟩)).set (k := 0) (.int .i64 2))
            have hrr := HR.out
            have hsz1 := HSZ1.out
            have hdl := HDL.out
            have HBB8 := Lib.hid ((HB7.out.setCell (p := ⟨R + 1, 0, none⟩) (by simp only []; omega) (.string ⟨#[]⟩)).setCell (p := ⟨R + 1 + 1, 0, none⟩) (by simp only []; omega) (.int .i64 2))
            have HK8 := Lib.hid (show ((W7.setCell ⟨R + 1, 0, none⟩ (.string ⟨#[]⟩)).setCell ⟨R + 1 + 1, 0, none⟩ (.int .i64 2)).heap[D']? = some (.deferred (some [])) from by
              rw [heap_setCell_other _ _ _ _ (show D' ≠ R + 1 + 1 by omega), heap_setCell_other _ _ _ _ (show D' ≠ R + 1 by omega)]; exact HK7.out)
            obtain ⟨w9, hw9⟩ : ∃ w9, (W7.setCell ⟨R + 1, 0, none⟩ (.string ⟨#[]⟩)).setCell ⟨R + 1 + 1, 0, none⟩ (.int .i64 2) = w9 := ⟨_, rfl⟩
            rw [hw9] at HE8 HF8 HBB8 HK8
            try rw [hw9]
            refine ⟨by simp, .inl ⟨_, _, rfl, run_takeDeferred HK8.out, ?_⟩⟩
            have e1 : (w9.putObj D' (.deferred none)).cell? ⟨R + 1, 0, none⟩ = some (.string ⟨#[]⟩) := (putObj_cell (k := 0) _ HE8.out (by omega)).trans rfl
            have e2 : (w9.putObj D' (.deferred none)).cell? ⟨R + 1 + 1, 0, none⟩ = some (.int .i64 2) := (putObj_cell (k := 0) _ HF8.out (by omega)).trans rfl
            exact ⟨.tuple #[.string ⟨#[]⟩, .int .i64 2], by simp [results, Tryz.results7, go_sem, e1, e2], by rw [HM.out], HBB8.out.trans (belowK_b (w := w) (Nat.le_refl _) w9 D' _ _ (by omega) HK8.out rfl rfl)⟩
          · by_cases c2 : 4096 < v.num
            · skip
              skip
              have HM := Lib.hid (show v.msg = (⟨#[]⟩, 2) from by rw [HMS.out, if_pos (by unfold Ver.far; simp only [c2, true_or, or_true])])
              go_wp2_with fail
              refine (ky_isName v.name _ hzn).mono ?_
              rintro e w8 ⟨rfl, rfl⟩
              rw [H1.out]
              go_wp2
              have HE8 := Lib.hid ((HE7.out.set (k := 0) (.string ⟨#[]⟩)).other (C := R + 1 + 1) (k := 0) (by omega) (.int .i64 2))
              have HF8 := Lib.hid ((HF7.out.other (C := R + 1) (k := 0) (by omega) (.string ⟨#[]⟩)).set (k := 0) (.int .i64 2))
              have hrr := HR.out
              have hsz1 := HSZ1.out
              have hdl := HDL.out
              have HBB8 := Lib.hid ((HB7.out.setCell (p := ⟨R + 1, 0, none⟩) (by simp only []; omega) (.string ⟨#[]⟩)).setCell (p := ⟨R + 1 + 1, 0, none⟩) (by simp only []; omega) (.int .i64 2))
              have HK8 := Lib.hid (show ((W7.setCell ⟨R + 1, 0, none⟩ (.string ⟨#[]⟩)).setCell ⟨R + 1 + 1, 0, none⟩ (.int .i64 2)).heap[D']? = some (.deferred (some [])) from by
                rw [heap_setCell_other _ _ _ _ (show D' ≠ R + 1 + 1 by omega), heap_setCell_other _ _ _ _ (show D' ≠ R + 1 by omega)]; exact HK7.out)
              obtain ⟨w9, hw9⟩ : ∃ w9, (W7.setCell ⟨R + 1, 0, none⟩ (.string ⟨#[]⟩)).setCell ⟨R + 1 + 1, 0, none⟩ (.int .i64 2) = w9 := ⟨_, rfl⟩
              rw [hw9] at HE8 HF8 HBB8 HK8
              try rw [hw9]
              refine ⟨by simp, .inl ⟨_, _, rfl, run_takeDeferred HK8.out, ?_⟩⟩
              have e1 : (w9.putObj D' (.deferred none)).cell? ⟨R + 1, 0, none⟩ = some (.string ⟨#[]⟩) := (putObj_cell (k := 0) _ HE8.out (by omega)).trans rfl
              have e2 : (w9.putObj D' (.deferred none)).cell? ⟨R + 1 + 1, 0, none⟩ = some (.int .i64 2) := (putObj_cell (k := 0) _ HF8.out (by omega)).trans rfl
              exact ⟨.tuple #[.string ⟨#[]⟩, .int .i64 2], by simp [results, Tryz.results7, go_sem, e1, e2], by rw [HM.out], HBB8.out.trans (belowK_b (w := w) (Nat.le_refl _) w9 D' _ _ (by omega) HK8.out rfl rfl)⟩
            · by_cases c3 : v.fr < 0
              · skip
                skip
                have HM := Lib.hid (show v.msg = (⟨#[]⟩, 2) from by rw [HMS.out, if_pos (by unfold Ver.far; simp only [c3, true_or, or_true])])
                go_wp2_with fail
                refine (ky_isName v.name _ hzn).mono ?_
                rintro e w8 ⟨rfl, rfl⟩
                rw [H1.out]
                go_wp2
                have HE8 := Lib.hid ((HE7.out.set (k := 0) (.string ⟨#[]⟩)).other (C := R + 1 + 1) (k := 0) (by omega) (.int .i64 2))
                have HF8 := Lib.hid ((HF7.out.other (C := R + 1) (k := 0) (by omega) (.string ⟨#[]⟩)).set (k := 0) (.int .i64 2))
                have hrr := HR.out
                have hsz1 := HSZ1.out
                have hdl := HDL.out
                have HBB8 := Lib.hid ((HB7.out.setCell (p := ⟨R + 1, 0, none⟩) (by simp only []; omega) (.string ⟨#[]⟩)).setCell (p := ⟨R + 1 + 1, 0, none⟩) (by simp only []; omega) (.int .i64 2))
                have HK8 := Lib.hid (show ((W7.setCell ⟨R + 1, 0, none⟩ (.string ⟨#[]⟩)).setCell ⟨R + 1 + 1, 0, none⟩ (.int .i64 2)).heap[D']? = some (.deferred (some [])) from by
                  rw [heap_setCell_other _ _ _ _ (show D' ≠ R + 1 + 1 by omega), heap_setCell_other _ _ _ _ (show D' ≠ R + 1 by omega)]; exact HK7.out)
                obtain ⟨w9, hw9⟩ : ∃ w9, (W7.setCell ⟨R + 1, 0, none⟩ (.string ⟨#[]⟩)).setCell ⟨R + 1 + 1, 0, none⟩ (.int .i64 2) = w9 := ⟨_, rfl⟩
                rw [hw9] at HE8 HF8 HBB8 HK8
                try rw [hw9]
                refine ⟨by simp, .inl ⟨_, _, rfl, run_takeDeferred HK8.out, ?_⟩⟩
                have e1 : (w9.putObj D' (.deferred none)).cell? ⟨R + 1, 0, none⟩ = some (.string ⟨#[]⟩) := (putObj_cell (k := 0) _ HE8.out (by omega)).trans rfl
                have e2 : (w9.putObj D' (.deferred none)).cell? ⟨R + 1 + 1, 0, none⟩ = some (.int .i64 2) := (putObj_cell (k := 0) _ HF8.out (by omega)).trans rfl
                exact ⟨.tuple #[.string ⟨#[]⟩, .int .i64 2], by simp [results, Tryz.results7, go_sem, e1, e2], by rw [HM.out], HBB8.out.trans (belowK_b (w := w) (Nat.le_refl _) w9 D' _ _ (by omega) HK8.out rfl rfl)⟩
              · by_cases c4 : v.to < v.fr
                · skip
                  skip
                  have HM := Lib.hid (show v.msg = (⟨#[]⟩, 2) from by rw [HMS.out, if_pos (by unfold Ver.far; simp only [c4, true_or, or_true])])
                  go_wp2_with fail
                  refine (ky_isName v.name _ hzn).mono ?_
                  rintro e w8 ⟨rfl, rfl⟩
                  rw [H1.out]
                  go_wp2
                  have HE8 := Lib.hid ((HE7.out.set (k := 0) (.string ⟨#[]⟩)).other (C := R + 1 + 1) (k := 0) (by omega) (.int .i64 2))
                  have HF8 := Lib.hid ((HF7.out.other (C := R + 1) (k := 0) (by omega) (.string ⟨#[]⟩)).set (k := 0) (.int .i64 2))
                  have hrr := HR.out
                  have hsz1 := HSZ1.out
                  have hdl := HDL.out
                  have HBB8 := Lib.hid ((HB7.out.setCell (p := ⟨R + 1, 0, none⟩) (by simp only []; omega) (.string ⟨#[]⟩)).setCell (p := ⟨R + 1 + 1, 0, none⟩) (by simp only []; omega) (.int .i64 2))
                  have HK8 := Lib.hid (show ((W7.setCell ⟨R + 1, 0, none⟩ (.string ⟨#[]⟩)).setCell ⟨R + 1 + 1, 0, none⟩ (.int .i64 2)).heap[D']? = some (.deferred (some [])) from by
                    rw [heap_setCell_other _ _ _ _ (show D' ≠ R + 1 + 1 by omega), heap_setCell_other _ _ _ _ (show D' ≠ R + 1 by omega)]; exact HK7.out)
                  obtain ⟨w9, hw9⟩ : ∃ w9, (W7.setCell ⟨R + 1, 0, none⟩ (.string ⟨#[]⟩)).setCell ⟨R + 1 + 1, 0, none⟩ (.int .i64 2) = w9 := ⟨_, rfl⟩
                  rw [hw9] at HE8 HF8 HBB8 HK8
                  try rw [hw9]
                  refine ⟨by simp, .inl ⟨_, _, rfl, run_takeDeferred HK8.out, ?_⟩⟩
                  have e1 : (w9.putObj D' (.deferred none)).cell? ⟨R + 1, 0, none⟩ = some (.string ⟨#[]⟩) := (putObj_cell (k := 0) _ HE8.out (by omega)).trans rfl
                  have e2 : (w9.putObj D' (.deferred none)).cell? ⟨R + 1 + 1, 0, none⟩ = some (.int .i64 2) := (putObj_cell (k := 0) _ HF8.out (by omega)).trans rfl
                  exact ⟨.tuple #[.string ⟨#[]⟩, .int .i64 2], by simp [results, Tryz.results7, go_sem, e1, e2], by rw [HM.out], HBB8.out.trans (belowK_b (w := w) (Nat.le_refl _) w9 D' _ _ (by omega) HK8.out rfl rfl)⟩
                · by_cases c5 : 4096 < v.to
                  · skip
                    skip
                    have HM := Lib.hid (show v.msg = (⟨#[]⟩, 2) from by rw [HMS.out, if_pos (by unfold Ver.far; simp only [c5, true_or, or_true])])
                    go_wp2_with fail
                    refine (ky_isName v.name _ hzn).mono ?_
                    rintro e w8 ⟨rfl, rfl⟩
                    rw [H1.out]
                    go_wp2
                    have HE8 := Lib.hid ((HE7.out.set (k := 0) (.string ⟨#[]⟩)).other (C := R + 1 + 1) (k := 0) (by omega) (.int .i64 2))
                    have HF8 := Lib.hid ((HF7.out.other (C := R + 1) (k := 0) (by omega) (.string ⟨#[]⟩)).set (k := 0) (.int .i64 2))
                    have hrr := HR.out
                    have hsz1 := HSZ1.out
                    have hdl := HDL.out
                    have HBB8 := Lib.hid ((HB7.out.setCell (p := ⟨R + 1, 0, none⟩) (by simp only []; omega) (.string ⟨#[]⟩)).setCell (p := ⟨R + 1 + 1, 0, none⟩) (by simp only []; omega) (.int .i64 2))
                    have HK8 := Lib.hid (show ((W7.setCell ⟨R + 1, 0, none⟩ (.string ⟨#[]⟩)).setCell ⟨R + 1 + 1, 0, none⟩ (.int .i64 2)).heap[D']? = some (.deferred (some [])) from by
                      rw [heap_setCell_other _ _ _ _ (show D' ≠ R + 1 + 1 by omega), heap_setCell_other _ _ _ _ (show D' ≠ R + 1 by omega)]; exact HK7.out)
                    obtain ⟨w9, hw9⟩ : ∃ w9, (W7.setCell ⟨R + 1, 0, none⟩ (.string ⟨#[]⟩)).setCell ⟨R + 1 + 1, 0, none⟩ (.int .i64 2) = w9 := ⟨_, rfl⟩
                    rw [hw9] at HE8 HF8 HBB8 HK8
                    try rw [hw9]
                    refine ⟨by simp, .inl ⟨_, _, rfl, run_takeDeferred HK8.out, ?_⟩⟩
                    have e1 : (w9.putObj D' (.deferred none)).cell? ⟨R + 1, 0, none⟩ = some (.string ⟨#[]⟩) := (putObj_cell (k := 0) _ HE8.out (by omega)).trans rfl
                    have e2 : (w9.putObj D' (.deferred none)).cell? ⟨R + 1 + 1, 0, none⟩ = some (.int .i64 2) := (putObj_cell (k := 0) _ HF8.out (by omega)).trans rfl
                    exact ⟨.tuple #[.string ⟨#[]⟩, .int .i64 2], by simp [results, Tryz.results7, go_sem, e1, e2], by rw [HM.out], HBB8.out.trans (belowK_b (w := w) (Nat.le_refl _) w9 D' _ _ (by omega) HK8.out rfl rfl)⟩
                  · skip
                    have hms : v.msg = encS v.it := by rw [HMS.out, if_neg (by unfold Ver.far; omega)]
                    have HM := Lib.hid hms
                    clear hms
                    go_wp2_with fail
                    refine (ky_isName v.name _ hzn).mono ?_
                    rintro e w8 ⟨rfl, rfl⟩
                    rw [H1.out]
                    go_wp2
                    rename_i K10 hK10
                    have k1 : W7.drew.cell? ⟨P, 1, none⟩ = some (.string v.km) := HP.out.cell 1
                    have k2 : W7.drew.cell? ⟨P, 2, none⟩ = some (.string v.ko) := HP.out.cell 2
                    have k3 : W7.drew.cell? ⟨P, 3, none⟩ = some (.string v.kz) := HP.out.cell 3
                    have k4 : W7.drew.cell? ⟨P, 4, none⟩ = some (.string v.ks) := HP.out.cell 4
                    have k5 : W7.drew.cell? ⟨P, 5, none⟩ = some (.slice A n c) := HP.out.cell 5
                    have k6 : W7.drew.cell? ⟨P, 6, none⟩ = some (.string v.ku) := HP.out.cell 6
                    have k7 : W7.drew.cell? ⟨P, 7, none⟩ = some (.string v.kh) := HP.out.cell 7
                    have HSL7 := Lib.hid (show SlN W7.drew A n c v.kr from HSW.out.kept HB7.out (Nat.le_refl _))
                    have HKN := Lib.hid (show Its.nodes [natIt v.km, natIt v.ko, natIt v.kz, natIt v.ks, lst (v.kr.map natIt), natIt v.ku, natIt v.kh] ≤ 1000000000000 from by
                      have hh := natIt_nodes v.kr
                      rw [HSW.out.1] at hh
                      simp only [Its.nodes, natIt, lst, It.nodes, hh] at *
                      omega)
                    clear b0 b1 b14 b15 p0 cE fE cF fF
                    have rest10 : ∀ (B7 : Nat) (W8 : World) (A7 : Option Addr) (l7 c7 : Nat), BxC W8 B7 #[.int .i64 2, .string ⟨#[]⟩, .string ⟨#[]⟩, .slice A7 l7 c7] 60 → SlAt W8 (fun b => b ≠ B7) A7 l7 c7 v.kit.list → Below W7.drew.heap.size W7.drew W8 → ∀ (z0 z4 z9 z10 z11 z15 z16 z17 z18 z19 z20 z21 z22 z23 z24 z25 z26 z27 z28 z29 z30 z31 z32 z33 z34 z35 z36 z37 z38 z39 z40 z41 z42 z43 z44 z45 z46 z47 z48 z49 z50 z51 z52 z53 z54 z55 z56 z57 z58 z59 z60 z61 z62 z63 z64 z65 z66 z67 z68 z69 z70 z71 z72 z73 z74 z75 z76 z77 z78 z79 z80 z81 : Value), K10 { tmps := #[z0, .pointer (some ⟨R, 0, none⟩), .pointer (some ⟨R + 1, 0, none⟩), .pointer (some ⟨R + 1 + 1, 0, none⟩), z4, .pointer (some ⟨P, 0, none⟩), .pointer (some ⟨Q, 0, none⟩), .pointer (some ⟨B7, 0, none⟩), undef, z9, z10, z11, undef, undef, undef, z15, z16, z17, z18, z19, z20, z21, z22, z23, z24, z25, z26, z27, z28, z29, z30, z31, z32, z33, z34, z35, z36, z37, z38, z39, z40, z41, z42, z43, z44, z45, z46, z47, z48, z49, z50, z51, z52, z53, z54, z55, z56, z57, z58, z59, z60, z61, z62, z63, z64, z65, z66, z67, z68, z69, z70, z71, z72, z73, z74, z75, z76, z77, z78, z79, z80, z81, undef, undef, undef, undef, undef, undef, undef, undef, undef, undef, undef, undef, undef, undef, undef, undef, undef, undef, undef, undef, undef, undef, undef, undef, undef, undef, undef, undef, undef, undef, undef, undef], defers := [{ target := .collected D', args := #[] }] } W8 := by
                      intro B7 W8 A7 l7 c7 hT hJ hL z0 z4 z9 z10 z11 z15 z16 z17 z18 z19 z20 z21 z22 z23 z24 z25 z26 z27 z28 z29 z30 z31 z32 z33 z34 z35 z36 z37 z38 z39 z40 z41 z42 z43 z44 z45 z46 z47 z48 z49 z50 z51 z52 z53 z54 z55 z56 z57 z58 z59 z60 z61 z62 z63 z64 z65 z66 z67 z68 z69 z70 z71 z72 z73 z74 z75 z76 z77 z78 z79 z80 z81
                      have hb8 : Below W7.heap.size W7 W8 := ((Below.refl _ _).drew).trans hL
                      have HX8 := Lib.hid (HX7.out.next hb8)
                      have HE8 := Lib.hid (HE7.out.next hb8)
                      have HF8 := Lib.hid (HF7.out.next hb8)
                      have HQ8 := Lib.hid (HQ.out.next hb8)
                      have HB8 := Lib.hid (HB7.out.trans (hb8.mono HB7.out.size))
                      have HK8 := Lib.hid (block_kept hb8 (Nat.le_refl _) HK7.out)
                      have HT := Lib.hid hT
                      have HJ := Lib.hid hJ
                      have q0 : W8.cell? ⟨Q, 0, none⟩ = some (.string v.sm) := HQ8.out.cell 0
                      have q1 : W8.cell? ⟨Q, 1, none⟩ = some (.string v.so) := HQ8.out.cell 1
                      have q2 : W8.cell? ⟨Q, 2, none⟩ = some (.string v.sg) := HQ8.out.cell 2
                      have q3 : W8.cell? ⟨Q, 3, none⟩ = some (.string v.sy) := HQ8.out.cell 3
                      clear hb8 hT hJ hL k1 k2 k3 k4 k5 k6 k7
                      refine hK10 _ _ ?_
                      go_wp2_with fail
                      refine (ky_list [v.sm, v.so, v.sg, v.sy] _ 4 4 _ (SlN.new W8 [v.sm, v.so, v.sg, v.sy] 22 (by simp)) (by omega)).mono ?_
                      rintro e w9 ⟨v9, rfl, ⟨A8, l8, c8, rfl, hs8⟩, hb9⟩
                      have hb9' := ((Below.refl W8.heap.size W8).alloc (Nat.le_refl _) (.cells #[.string v.sm, .string v.so, .string v.sg, .string v.sy] 22)).trans (hb9.mono (by simp))
                      have HT9 := Lib.hid (HT.out.next hb9')
                      have HJ9 := Lib.hid (HJ.out.below hb9' (Nat.le_refl _)).bound
                      have HS8 := Lib.hid hs8.bound
                      have HB9 := Lib.hid hb9'
                      clear hb9 hb9' hs8 q0 q1 q2 q3
                      dsimp only [It.kind, It.nat, It.text, It.list]
                      iterate 1 go_step
                      refine wpList_alloc_item rfl _ rfl (fun ρ => by kernel_rfl) ?_
                      intro B8 w10 hB8 hz10 hb10
                      refine wpList_store_rowTo rfl 60 _ _ rfl rfl B8 #[.int .i64 2, .string ⟨#[]⟩, .string ⟨#[]⟩, .slice A8 l8 c8] rfl rfl 60 itZ hz10 (by kernel_rfl) rfl (by simp [Value.oneCell']) ?_
                      have h79 := HT9.out.lt
                      have HU := Lib.hid (show BxC _ B8 #[.int .i64 2, .string ⟨#[]⟩, .string ⟨#[]⟩, .slice A8 l8 c8] 60 from setRow_heap _ _ _ #[.int .i64 2, .string ⟨#[]⟩, .string ⟨#[]⟩, .slice A8 l8 c8] _ _ hz10)
                      have HT11 := Lib.hid ((HT9.out.next hb10).row (C := B8) (ds := #[.int .i64 2, .string ⟨#[]⟩, .string ⟨#[]⟩, .slice A8 l8 c8]) (by omega))
                      have HJ7 := Lib.hid ((HJ9.out.below hb10 (Nat.le_refl _)).row (B := B8) (fun b h => by omega) #[.int .i64 2, .string ⟨#[]⟩, .string ⟨#[]⟩, .slice A8 l8 c8])
                      have HJ8 := Lib.hid ((HS8.out.below hb10 (Nat.le_refl _)).row (B := B8) (fun b h => by omega) #[.int .i64 2, .string ⟨#[]⟩, .string ⟨#[]⟩, .slice A8 l8 c8])
                      have hbl := below_setRow (HB9.out.trans (hb10.mono HB9.out.size)) (g := B8) (by have := HB9.out.size; omega) #[.int .i64 2, .string ⟨#[]⟩, .string ⟨#[]⟩, .slice A8 l8 c8]
                      obtain ⟨w11, hw11⟩ : ∃ w11, w10.setRow B8 #[.int .i64 2, .string ⟨#[]⟩, .string ⟨#[]⟩, .slice A8 l8 c8] = w11 := ⟨_, rfl⟩
                      rw [hw11] at HU HT11 HJ7 HJ8 hbl ⊢
                      have HX11 := Lib.hid (HX8.out.next hbl)
                      have HE11 := Lib.hid (HE8.out.next hbl)
                      have HF11 := Lib.hid (HF8.out.next hbl)
                      have HBW11 := Lib.hid (HB8.out.trans (hbl.mono HB8.out.size))
                      have HK11 := Lib.hid (block_kept hbl (Nat.le_refl _) HK8.out)
                      clear hw11 hz10 hb10 hbl h79 hB8
                      obtain ⟨N, hN⟩ : ∃ N, v.num.toNat = N := ⟨_, rfl⟩
                      obtain ⟨F, hF⟩ : ∃ F, v.fr.toNat = F := ⟨_, rfl⟩
                      obtain ⟨T, hT⟩ : ∃ T, v.to.toNat = T := ⟨_, rfl⟩
                      have hN4 : N ≤ 4096 := by omega
                      have hF4 : F ≤ 4096 := by omega
                      have hT4 : T ≤ 4096 := by omega
                      have hns : v.name.size ≤ 32 := by
                        have := H1.out
                        unfold knameB at this
                        simp only [Bool.and_eq_true, decide_eq_true_eq] at this
                        exact this.2.2
                      have hwn := Ver.it_weight HOK.out (by rw [HSW.out.1]; exact hn) hns (by omega) (by omega) (by omega)
                      have HIE := Lib.hid (show It.mk 2 ⟨#[]⟩ ⟨#[]⟩ [.mk 1 ⟨#[]⟩ ⟨#[118, 101, 114, 115, 105, 111, 110]⟩ [], .mk 1 ⟨#[]⟩ v.name [], .mk 0 (bstr (encN N)) ⟨#[]⟩ [], .mk 2 ⟨#[]⟩ ⟨#[]⟩ v.kit.list, .mk 2 ⟨#[]⟩ ⟨#[]⟩ ([v.sm, v.so, v.sg, v.sy].map natIt), .mk 0 (bstr (encN F)) ⟨#[]⟩ [], .mk 0 (bstr (encN T)) ⟨#[]⟩ []] = v.it from by rw [← hN, ← hF, ← hT]; rfl)
                      have HWE := Lib.hid hwn.1
                      have HNO := Lib.hid hwn.2
                      rw [← HIE.out] at HWE HNO
                      have b0 : w11.drew.cell? ⟨R, 0, none⟩ = some (.string v.name) := (HX11.out.cell 0).trans (by rw [← HVA.out]; rfl)
                      have b1 : w11.drew.cell? ⟨R, 1, none⟩ = some (.int .i64 (N : Int)) := (HX11.out.cell 1).trans (by rw [← HVA.out, show (N : Int) = v.num by omega]; rfl)
                      have b14 : w11.drew.cell? ⟨R, 14, none⟩ = some (.int .i64 (F : Int)) := (HX11.out.cell 14).trans (by rw [← HVA.out, show (F : Int) = v.fr by omega]; rfl)
                      have b15 : w11.drew.cell? ⟨R, 15, none⟩ = some (.int .i64 (T : Int)) := (HX11.out.cell 15).trans (by rw [← HVA.out, show (T : Int) = v.to by omega]; rfl)
                      have t0 : w11.drew.cell? ⟨B7, 0, none⟩ = some (.int .i64 2) := HT11.out.cell 0
                      have t1 : w11.drew.cell? ⟨B7, 1, none⟩ = some (.string ⟨#[]⟩) := HT11.out.cell 1
                      have t2 : w11.drew.cell? ⟨B7, 2, none⟩ = some (.string ⟨#[]⟩) := HT11.out.cell 2
                      have t3 : w11.drew.cell? ⟨B7, 3, none⟩ = some (.slice A7 l7 c7) := HT11.out.cell 3
                      have u0 : w11.drew.cell? ⟨B8, 0, none⟩ = some (.int .i64 2) := HU.out.cell 0
                      have u1 : w11.drew.cell? ⟨B8, 1, none⟩ = some (.string ⟨#[]⟩) := HU.out.cell 1
                      have u2 : w11.drew.cell? ⟨B8, 2, none⟩ = some (.string ⟨#[]⟩) := HU.out.cell 2
                      have u3 : w11.drew.cell? ⟨B8, 3, none⟩ = some (.slice A8 l8 c8) := HU.out.cell 3
                      clear hN hF hT hns hwn c1 c2 c3 c4 c5
                      have HJ7d := Lib.hid (HJ7.out.below (Below.refl _ _).drew (Nat.le_refl _))
                      have HJ8d := Lib.hid (HJ8.out.below (Below.refl _ _).drew (Nat.le_refl _))
                      go_wp2
                      rename_i K12 hK12
                      refine wp_onlyN ?_
                      refine wp_region_K 17 (Below (w11.drew).heap.size (w11.drew)) (by kernel_rfl) ?_
                      intro hD
                      refine wpAnyK_pureD (i := 1) (d := some 95) (v := ?v12_1b1) (fuel := 21) rfl (by kernel_rfl) (by kernel_rfl) (fun _ _ _ h => h) hD (Below.refl _ _) (.inl ⟨by kernel_rfl, ?y12_1b1⟩) ?n12_1b1
                      case y12_1b1 => intro w' _; go_simp; with_reducible rfl
                      clear hD; intro hD
                      simp only [Act.put, List.setIfInBounds_toArray, set_cons_9]; try simp only [List.set_cons_zero, List.set_cons_succ]
                      refine wpAnyK_takeD (i := 2) (d := some 96) (v := ?v12_2b1) (fuel := 20) rfl (by kernel_rfl) (by kernel_rfl) (by kernel_rfl) (fun _ _ _ h => h) hD (Below.refl _ _) (.inl ⟨by kernel_rfl, ?y12_2b1⟩) ?n12_2b1
                      case y12_2b1 => intro w' hS'; have e0 := cell_kept hS' (Nat.le_refl _) b0; have e1 := cell_kept hS' (Nat.le_refl _) b1; have e2 := cell_kept hS' (Nat.le_refl _) b14; have e3 := cell_kept hS' (Nat.le_refl _) b15; have e4 := cell_kept hS' (Nat.le_refl _) t0; have e5 := cell_kept hS' (Nat.le_refl _) t1; have e6 := cell_kept hS' (Nat.le_refl _) t2; have e7 := cell_kept hS' (Nat.le_refl _) t3; have e8 := cell_kept hS' (Nat.le_refl _) u0; have e9 := cell_kept hS' (Nat.le_refl _) u1; have e10 := cell_kept hS' (Nat.le_refl _) u2; have e11 := cell_kept hS' (Nat.le_refl _) u3; go_simp; with_reducible rfl
                      clear hD; intro hD
                      simp only [Act.put, List.setIfInBounds_toArray, set_cons_9]; try simp only [List.set_cons_zero, List.set_cons_succ]
                      refine wpAnyK_pureD (i := 4) (d := some 98) (v := ?v12_4b1) (fuel := 19) rfl (by kernel_rfl) (by kernel_rfl) (fun _ _ _ h => h) hD (Below.refl _ _) (.inl ⟨by kernel_rfl, ?y12_4b1⟩) ?n12_4b1
                      case y12_4b1 => intro w' _; go_simp; with_reducible rfl
                      clear hD; intro hD
                      simp only [Act.put, List.setIfInBounds_toArray, set_cons_9]; try simp only [List.set_cons_zero, List.set_cons_succ]
                      refine wpAnyK_takeD (i := 5) (d := some 99) (v := ?v12_5b1) (fuel := 18) rfl (by kernel_rfl) (by kernel_rfl) (by kernel_rfl) (fun _ _ _ h => h) hD (Below.refl _ _) (.inl ⟨by kernel_rfl, ?y12_5b1⟩) ?n12_5b1
                      case y12_5b1 => intro w' hS'; have e0 := cell_kept hS' (Nat.le_refl _) b0; have e1 := cell_kept hS' (Nat.le_refl _) b1; have e2 := cell_kept hS' (Nat.le_refl _) b14; have e3 := cell_kept hS' (Nat.le_refl _) b15; have e4 := cell_kept hS' (Nat.le_refl _) t0; have e5 := cell_kept hS' (Nat.le_refl _) t1; have e6 := cell_kept hS' (Nat.le_refl _) t2; have e7 := cell_kept hS' (Nat.le_refl _) t3; have e8 := cell_kept hS' (Nat.le_refl _) u0; have e9 := cell_kept hS' (Nat.le_refl _) u1; have e10 := cell_kept hS' (Nat.le_refl _) u2; have e11 := cell_kept hS' (Nat.le_refl _) u3; go_simp; with_reducible rfl
                      clear hD; intro hD
                      simp only [Act.put, List.setIfInBounds_toArray, set_cons_9]; try simp only [List.set_cons_zero, List.set_cons_succ]
                      refine wpAnyK_takeD (i := 7) (d := some 101) (v := ?v12_7b1) (fuel := 17) rfl (by kernel_rfl) (by kernel_rfl) (by kernel_rfl) (fun _ _ _ h => h) hD (Below.refl _ _) (.inl ⟨by kernel_rfl, ?y12_7b1⟩) ?n12_7b1
                      case y12_7b1 => intro w' hS'; have e0 := cell_kept hS' (Nat.le_refl _) b0; have e1 := cell_kept hS' (Nat.le_refl _) b1; have e2 := cell_kept hS' (Nat.le_refl _) b14; have e3 := cell_kept hS' (Nat.le_refl _) b15; have e4 := cell_kept hS' (Nat.le_refl _) t0; have e5 := cell_kept hS' (Nat.le_refl _) t1; have e6 := cell_kept hS' (Nat.le_refl _) t2; have e7 := cell_kept hS' (Nat.le_refl _) t3; have e8 := cell_kept hS' (Nat.le_refl _) u0; have e9 := cell_kept hS' (Nat.le_refl _) u1; have e10 := cell_kept hS' (Nat.le_refl _) u2; have e11 := cell_kept hS' (Nat.le_refl _) u3; go_simp; with_reducible rfl
                      clear hD; intro hD
                      simp only [Act.put, List.setIfInBounds_toArray, set_cons_9]; try simp only [List.set_cons_zero, List.set_cons_succ]
                      refine wpAnyK_takeD (i := 8) (d := some 102) (v := ?v12_8b1) (fuel := 16) rfl (by kernel_rfl) (by kernel_rfl) (by kernel_rfl) (fun _ _ _ h => h) hD (Below.refl _ _) (.inl ⟨by kernel_rfl, ?y12_8b1⟩) ?n12_8b1
                      case y12_8b1 => intro w' hS'; have e0 := cell_kept hS' (Nat.le_refl _) b0; have e1 := cell_kept hS' (Nat.le_refl _) b1; have e2 := cell_kept hS' (Nat.le_refl _) b14; have e3 := cell_kept hS' (Nat.le_refl _) b15; have e4 := cell_kept hS' (Nat.le_refl _) t0; have e5 := cell_kept hS' (Nat.le_refl _) t1; have e6 := cell_kept hS' (Nat.le_refl _) t2; have e7 := cell_kept hS' (Nat.le_refl _) t3; have e8 := cell_kept hS' (Nat.le_refl _) u0; have e9 := cell_kept hS' (Nat.le_refl _) u1; have e10 := cell_kept hS' (Nat.le_refl _) u2; have e11 := cell_kept hS' (Nat.le_refl _) u3; go_simp; with_reducible rfl
                      clear hD; intro hD
                      simp only [Act.put, List.setIfInBounds_toArray, set_cons_9]; try simp only [List.set_cons_zero, List.set_cons_succ]
                      refine wpAnyK_pureD (i := 9) (d := some 103) (v := ?v12_9b1) (fuel := 15) rfl (by kernel_rfl) (by kernel_rfl) (fun _ _ _ h => h) hD (Below.refl _ _) (.inl ⟨by kernel_rfl, ?y12_9b1⟩) ?n12_9b1
                      case y12_9b1 => intro w' _; go_simp; with_reducible rfl
                      clear hD; intro hD
                      simp only [Act.put, List.setIfInBounds_toArray, set_cons_9]; try simp only [List.set_cons_zero, List.set_cons_succ]
                      refine wpAnyK_takeD (i := 10) (d := some 104) (v := ?v12_10b1) (fuel := 14) rfl (by kernel_rfl) (by kernel_rfl) (by kernel_rfl) (fun _ _ _ h => h) hD (Below.refl _ _) (.inl ⟨by kernel_rfl, ?y12_10b1⟩) ?n12_10b1
                      case y12_10b1 => intro w' hS'; have e0 := cell_kept hS' (Nat.le_refl _) b0; have e1 := cell_kept hS' (Nat.le_refl _) b1; have e2 := cell_kept hS' (Nat.le_refl _) b14; have e3 := cell_kept hS' (Nat.le_refl _) b15; have e4 := cell_kept hS' (Nat.le_refl _) t0; have e5 := cell_kept hS' (Nat.le_refl _) t1; have e6 := cell_kept hS' (Nat.le_refl _) t2; have e7 := cell_kept hS' (Nat.le_refl _) t3; have e8 := cell_kept hS' (Nat.le_refl _) u0; have e9 := cell_kept hS' (Nat.le_refl _) u1; have e10 := cell_kept hS' (Nat.le_refl _) u2; have e11 := cell_kept hS' (Nat.le_refl _) u3; go_simp; with_reducible rfl
                      clear hD; intro hD
                      simp only [Act.put, List.setIfInBounds_toArray, set_cons_9]; try simp only [List.set_cons_zero, List.set_cons_succ]
                      refine wpAnyK_pureD (i := 12) (d := some 106) (v := ?v12_12b1) (fuel := 13) rfl (by kernel_rfl) (by kernel_rfl) (fun _ _ _ h => h) hD (Below.refl _ _) (.inl ⟨by kernel_rfl, ?y12_12b1⟩) ?n12_12b1
                      case y12_12b1 => intro w' _; go_simp; with_reducible rfl
                      clear hD; intro hD
                      simp only [Act.put, List.setIfInBounds_toArray, set_cons_9]; try simp only [List.set_cons_zero, List.set_cons_succ]
                      refine wpAnyK_takeD (i := 13) (d := some 107) (v := ?v12_13b1) (fuel := 12) rfl (by kernel_rfl) (by kernel_rfl) (by kernel_rfl) (fun _ _ _ h => h) hD (Below.refl _ _) (.inl ⟨by kernel_rfl, ?y12_13b1⟩) ?n12_13b1
                      case y12_13b1 => intro w' hS'; have e0 := cell_kept hS' (Nat.le_refl _) b0; have e1 := cell_kept hS' (Nat.le_refl _) b1; have e2 := cell_kept hS' (Nat.le_refl _) b14; have e3 := cell_kept hS' (Nat.le_refl _) b15; have e4 := cell_kept hS' (Nat.le_refl _) t0; have e5 := cell_kept hS' (Nat.le_refl _) t1; have e6 := cell_kept hS' (Nat.le_refl _) t2; have e7 := cell_kept hS' (Nat.le_refl _) t3; have e8 := cell_kept hS' (Nat.le_refl _) u0; have e9 := cell_kept hS' (Nat.le_refl _) u1; have e10 := cell_kept hS' (Nat.le_refl _) u2; have e11 := cell_kept hS' (Nat.le_refl _) u3; go_simp; with_reducible rfl
                      clear hD; intro hD
                      simp only [Act.put, List.setIfInBounds_toArray, set_cons_9]; try simp only [List.set_cons_zero, List.set_cons_succ]
                      refine wpAnyK_one (i := 0) (fuel := 11) (by kernel_rfl) rfl hD ?_
                      clear hD; intro K0 hK0
                      go_wp2_with fail
                      refine (enc_TextV _ _).mono ?_
                      rintro e wz0 ⟨rfl, hb⟩
                      have HB0 := Lib.hid hb
                      clear hb
                      go_wp2
                      refine hK0 _ _ (by exact HB0.out) ?_; clear hK0; intro hS_12_0 hD
                      refine wpAnyK_one (i := 3) (fuel := 10) (by kernel_rfl) rfl hD ?_
                      clear hD; intro K3 hK3
                      go_wp2_with fail
                      refine (enc_TextV _ _).mono ?_
                      rintro e wz3 ⟨rfl, hb⟩
                      have HB3 := Lib.hid hb
                      clear hb
                      go_wp2
                      refine hK3 _ _ (by exact Below.trans hS_12_0 (Below.mono HB3.out (Below.size hS_12_0))) ?_; clear hK3; intro hS_12_3 hD
                      refine wpAnyK_one (i := 6) (fuel := 9) (by kernel_rfl) rfl hD ?_
                      clear hD; intro K6 hK6
                      go_wp2_with fail
                      refine (ky_small N _ (by omega)).mono ?_
                      rintro e wz6 ⟨rfl, hb⟩
                      have HB6 := Lib.hid hb
                      clear hb
                      go_wp2
                      refine hK6 _ _ (by exact Below.trans hS_12_3 (Below.mono HB6.out (Below.size hS_12_3))) ?_; clear hK6; intro hS_12_6 hD
                      refine wpAnyK_one (i := 11) (fuel := 8) (by kernel_rfl) rfl hD ?_
                      clear hD; intro K11 hK11
                      go_wp2_with fail
                      refine (ky_small F _ (by omega)).mono ?_
                      rintro e wz11 ⟨rfl, hb⟩
                      have HB11 := Lib.hid hb
                      clear hb
                      go_wp2
                      refine hK11 _ _ (by exact Below.trans hS_12_6 (Below.mono HB11.out (Below.size hS_12_6))) ?_; clear hK11; intro hS_12_11 hD
                      refine wpAnyK_one (i := 14) (fuel := 7) (by kernel_rfl) rfl hD ?_
                      clear hD; intro K14 hK14
                      go_wp2_with fail
                      refine (ky_small T _ (by omega)).mono ?_
                      rintro e wz14 ⟨rfl, hb⟩
                      have HB14 := Lib.hid hb
                      clear hb
                      go_wp2
                      refine hK14 _ _ (by exact Below.trans hS_12_11 (Below.mono HB14.out (Below.size hS_12_11))) ?_; clear hK14; intro hS_12_14 hD
                      refine wpAnyK_one (i := 15) (fuel := 6) (by kernel_rfl) rfl hD ?_
                      clear hD; intro K15 hK15
                      go_wp2
                      refine name_world ?_
                      intro w23 hw23
                      have hb := below_allocK hw23
                      have HR23 := Lib.hid (row7 (bxc_alloc hw23) ((HJ7d.out.below hS_12_14 (Nat.le_refl _)).below hb (Nat.le_refl _)) ((HJ8d.out.below hS_12_14 (Nat.le_refl _)).below hb (Nat.le_refl _)))
                      have HB15 := Lib.hid hb
                      clear hb hw23
                      refine hK15 _ _ (by exact Below.trans hS_12_14 (Below.mono HB15.out (Below.size hS_12_14))) ?_; clear hK15; intro hS_12_15 hD
                      refine wpAnyK_one (i := 16) (fuel := 5) (by kernel_rfl) rfl hD ?_
                      clear hD; intro K16 hK16
                      go_wp2_with fail
                      refine (enc_List _ _ 7 7 _ _ HNO.out HR23.out).mono ?_
                      rintro e w24 ⟨v24, rfl, hi24, hb⟩
                      have HI24 := Lib.hid hi24
                      have HB16 := Lib.hid hb
                      clear hb hi24
                      go_wp2
                      refine hK16 _ _ (by exact Below.trans hS_12_15 (Below.mono HB16.out (Below.size hS_12_15))) ?_; clear hK16; intro hS_12_16 hD
                      refine wpAnyK_oneT (i := 17) (fuel := 4) (by kernel_rfl) rfl hD (by kernel_rfl) ?_
                      clear hD; intro K17 hK17
                      go_wp2_with fail
                      refine (enc_Encode _ v24 _ _ HWE.out HI24.out).mono ?_
                      rintro e w25 ⟨rfl, hb⟩
                      rw [HIE.out, ← HM.out]
                      have hbl := Below.trans hS_12_16 (Below.mono hb (Below.size hS_12_16))
                      have HE25 := Lib.hid ((show BxC w11.drew (R + 1) #[.string ⟨#[]⟩] 9 from HE11.out).next hbl)
                      have HF25 := Lib.hid ((show BxC w11.drew (R + 1 + 1) #[.int .i64 0] 39 from HF11.out).next hbl)
                      have HB25 := Lib.hid (HBW11.out.trans ((((Below.refl _ _).drew).trans hbl).mono HBW11.out.size))
                      have HK25 := Lib.hid (block_kept hbl (Nat.le_refl _) (show w11.drew.heap[D']? = some (.deferred (some [])) from HK11.out))
                      have cE : w25.cell? ⟨R + 1, 0, none⟩ = some (.string ⟨#[]⟩) := HE25.out.cell 0
                      have fE := HE25.out.free 0
                      have cF : w25.cell? ⟨R + 1 + 1, 0, none⟩ = some (.int .i64 0) := HF25.out.cell 0
                      have fF := HF25.out.free 0
                      obtain ⟨r1, r2, hr⟩ : ∃ r1 r2, v.msg = (r1, r2) := ⟨_, _, rfl⟩
                      rw [hr]
                      have HMR := Lib.hid hr
                      clear hb hbl hr
                      go_wp2
                      refine hK17 _ _ ?_; clear hK17; intro hD
                      refine wpAnyK_pureTD (i := 18) (d := some 112) (v := ?v12_18b1) (fuel := 3) rfl (by kernel_rfl) (by kernel_rfl) (by kernel_rfl) (fun _ _ _ h => h) hD (.inl ⟨by kernel_rfl, ?y12_18b1⟩) ?n12_18b1
                      case y12_18b1 => intro w' _; go_simp; with_reducible rfl
                      clear hD; intro hD
                      simp only [Act.put, List.setIfInBounds_toArray, set_cons_9]; try simp only [List.set_cons_zero, List.set_cons_succ]
                      refine wpAnyK_pureTD (i := 19) (d := some 113) (v := ?v12_19b1) (fuel := 2) rfl (by kernel_rfl) (by kernel_rfl) (by kernel_rfl) (fun _ _ _ h => h) hD (.inl ⟨by kernel_rfl, ?y12_19b1⟩) ?n12_19b1
                      case y12_19b1 => intro w' _; go_simp; with_reducible rfl
                      clear hD; intro hD
                      simp only [Act.put, List.setIfInBounds_toArray, set_cons_9]; try simp only [List.set_cons_zero, List.set_cons_succ]
                      refine wpAnyK_oneT (i := 20) (fuel := 1) (by kernel_rfl) rfl hD (by kernel_rfl) ?_
                      clear hD; intro K20 hK20
                      go_wp2
                      refine hK20 _ _ ?_; clear hK20; intro hD
                      refine wpAnyK_oneT (i := 21) (fuel := 0) (by kernel_rfl) rfl hD (by kernel_rfl) ?_
                      clear hD; intro K21 hK21
                      go_wp2
                      refine hK21 _ _ ?_; clear hK21; intro hD
                      refine wpAnyK_done (by kernel_rfl) ?_ 0
                      clear hD
                      refine hK12 _ _ ?_
                      go_wp2
                      have HE8 := Lib.hid ((HE25.out.set (k := 0) (.string r1)).other (C := R + 1 + 1) (k := 0) (by omega) (.int .i64 r2))
                      have HF8 := Lib.hid ((HF25.out.other (C := R + 1) (k := 0) (by omega) (.string r1)).set (k := 0) (.int .i64 r2))
                      have hrr := HR.out
                      have hsz1 := HSZ1.out
                      have hdl := HDL.out
                      have HBB8 := Lib.hid ((HB25.out.setCell (p := ⟨R + 1, 0, none⟩) (by simp only []; omega) (.string r1)).setCell (p := ⟨R + 1 + 1, 0, none⟩) (by simp only []; omega) (.int .i64 r2))
                      have HK8 := Lib.hid (show ((w25.setCell ⟨R + 1, 0, none⟩ (.string r1)).setCell ⟨R + 1 + 1, 0, none⟩ (.int .i64 r2)).heap[D']? = some (.deferred (some [])) from by
                      rw [heap_setCell_other _ _ _ _ (show D' ≠ R + 1 + 1 by omega), heap_setCell_other _ _ _ _ (show D' ≠ R + 1 by omega)]; exact HK25.out)
                      obtain ⟨w9, hw9⟩ : ∃ w9, (w25.setCell ⟨R + 1, 0, none⟩ (.string r1)).setCell ⟨R + 1 + 1, 0, none⟩ (.int .i64 r2) = w9 := ⟨_, rfl⟩
                      rw [hw9] at HE8 HF8 HBB8 HK8
                      try rw [hw9]
                      refine ⟨by simp, .inl ⟨_, _, rfl, run_takeDeferred HK8.out, ?_⟩⟩
                      have e1 : (w9.putObj D' (.deferred none)).cell? ⟨R + 1, 0, none⟩ = some (.string r1) := (putObj_cell (k := 0) _ HE8.out (by omega)).trans rfl
                      have e2 : (w9.putObj D' (.deferred none)).cell? ⟨R + 1 + 1, 0, none⟩ = some (.int .i64 r2) := (putObj_cell (k := 0) _ HF8.out (by omega)).trans rfl
                      exact ⟨.tuple #[.string r1, .int .i64 r2], by simp [results, Tryz.results7, go_sem, e1, e2], by rw [HMR.out], HBB8.out.trans (belowK_b (w := w) (Nat.le_refl _) w9 D' _ _ (by omega) HK8.out rfl rfl)⟩
                    refine wp_onlyN ?_
                    refine wp_region_K 27 (Below (W7.drew).heap.size (W7.drew)) (by kernel_rfl) ?_
                    intro hD
                    refine wpAnyK_pureD (i := 0) (d := some 57) (v := ?v10_0b2) (fuel := 26) rfl (by kernel_rfl) (by kernel_rfl) (fun _ _ _ h => h) hD (Below.refl _ _) (.inl ⟨by kernel_rfl, ?y10_0b2⟩) ?n10_0b2
                    case y10_0b2 => intro w' _; go_simp; with_reducible rfl
                    clear hD; intro hD
                    simp only [Act.put, List.setIfInBounds_toArray, set_cons_9]; try simp only [List.set_cons_zero, List.set_cons_succ]
                    refine wpAnyK_pureD (i := 1) (d := some 58) (v := ?v10_1b2) (fuel := 25) rfl (by kernel_rfl) (by kernel_rfl) (fun _ _ _ h => h) hD (Below.refl _ _) (.inl ⟨by kernel_rfl, ?y10_1b2⟩) ?n10_1b2
                    case y10_1b2 => intro w' _; go_simp; with_reducible rfl
                    clear hD; intro hD
                    simp only [Act.put, List.setIfInBounds_toArray, set_cons_9]; try simp only [List.set_cons_zero, List.set_cons_succ]
                    refine wpAnyK_takeSD (i := 2) (d := some 59) (v := ?v10_2b2) (fuel := 24) rfl (by kernel_rfl) (by kernel_rfl) (by kernel_rfl) (fun _ _ _ h => h) hD (Below.refl _ _) (.inl ⟨by kernel_rfl, ?y10_2b2⟩) ?n10_2b2
                    case y10_2b2 => intro w' hS'; have e0 := cell_kept hS' (Nat.le_refl _) k1; have e1 := cell_kept hS' (Nat.le_refl _) k2; have e2 := cell_kept hS' (Nat.le_refl _) k3; have e3 := cell_kept hS' (Nat.le_refl _) k4; have e4 := cell_kept hS' (Nat.le_refl _) k5; have e5 := cell_kept hS' (Nat.le_refl _) k6; have e6 := cell_kept hS' (Nat.le_refl _) k7; go_simp; with_reducible rfl
                    clear hD; intro hD
                    simp only [Act.put, List.setIfInBounds_toArray, set_cons_9]; try simp only [List.set_cons_zero, List.set_cons_succ]
                    refine wpAnyK_pureD (i := 4) (d := some 61) (v := ?v10_4b2) (fuel := 23) rfl (by kernel_rfl) (by kernel_rfl) (fun _ _ _ h => h) hD (Below.refl _ _) (.inl ⟨by kernel_rfl, ?y10_4b2⟩) ?n10_4b2
                    case y10_4b2 => intro w' _; go_simp; with_reducible rfl
                    clear hD; intro hD
                    simp only [Act.put, List.setIfInBounds_toArray, set_cons_9]; try simp only [List.set_cons_zero, List.set_cons_succ]
                    refine wpAnyK_pureD (i := 5) (d := some 62) (v := ?v10_5b2) (fuel := 22) rfl (by kernel_rfl) (by kernel_rfl) (fun _ _ _ h => h) hD (Below.refl _ _) (.inl ⟨by kernel_rfl, ?y10_5b2⟩) ?n10_5b2
                    case y10_5b2 => intro w' _; go_simp; with_reducible rfl
                    clear hD; intro hD
                    simp only [Act.put, List.setIfInBounds_toArray, set_cons_9]; try simp only [List.set_cons_zero, List.set_cons_succ]
                    refine wpAnyK_takeSD (i := 6) (d := some 63) (v := ?v10_6b2) (fuel := 21) rfl (by kernel_rfl) (by kernel_rfl) (by kernel_rfl) (fun _ _ _ h => h) hD (Below.refl _ _) (.inl ⟨by kernel_rfl, ?y10_6b2⟩) ?n10_6b2
                    case y10_6b2 => intro w' hS'; have e0 := cell_kept hS' (Nat.le_refl _) k1; have e1 := cell_kept hS' (Nat.le_refl _) k2; have e2 := cell_kept hS' (Nat.le_refl _) k3; have e3 := cell_kept hS' (Nat.le_refl _) k4; have e4 := cell_kept hS' (Nat.le_refl _) k5; have e5 := cell_kept hS' (Nat.le_refl _) k6; have e6 := cell_kept hS' (Nat.le_refl _) k7; go_simp; with_reducible rfl
                    clear hD; intro hD
                    simp only [Act.put, List.setIfInBounds_toArray, set_cons_9]; try simp only [List.set_cons_zero, List.set_cons_succ]
                    refine wpAnyK_pureD (i := 8) (d := some 65) (v := ?v10_8b2) (fuel := 20) rfl (by kernel_rfl) (by kernel_rfl) (fun _ _ _ h => h) hD (Below.refl _ _) (.inl ⟨by kernel_rfl, ?y10_8b2⟩) ?n10_8b2
                    case y10_8b2 => intro w' _; go_simp; with_reducible rfl
                    clear hD; intro hD
                    simp only [Act.put, List.setIfInBounds_toArray, set_cons_9]; try simp only [List.set_cons_zero, List.set_cons_succ]
                    refine wpAnyK_takeSD (i := 9) (d := some 66) (v := ?v10_9b2) (fuel := 19) rfl (by kernel_rfl) (by kernel_rfl) (by kernel_rfl) (fun _ _ _ h => h) hD (Below.refl _ _) (.inl ⟨by kernel_rfl, ?y10_9b2⟩) ?n10_9b2
                    case y10_9b2 => intro w' hS'; have e0 := cell_kept hS' (Nat.le_refl _) k1; have e1 := cell_kept hS' (Nat.le_refl _) k2; have e2 := cell_kept hS' (Nat.le_refl _) k3; have e3 := cell_kept hS' (Nat.le_refl _) k4; have e4 := cell_kept hS' (Nat.le_refl _) k5; have e5 := cell_kept hS' (Nat.le_refl _) k6; have e6 := cell_kept hS' (Nat.le_refl _) k7; go_simp; with_reducible rfl
                    clear hD; intro hD
                    simp only [Act.put, List.setIfInBounds_toArray, set_cons_9]; try simp only [List.set_cons_zero, List.set_cons_succ]
                    refine wpAnyK_pureD (i := 11) (d := some 68) (v := ?v10_11b2) (fuel := 18) rfl (by kernel_rfl) (by kernel_rfl) (fun _ _ _ h => h) hD (Below.refl _ _) (.inl ⟨by kernel_rfl, ?y10_11b2⟩) ?n10_11b2
                    case y10_11b2 => intro w' _; go_simp; with_reducible rfl
                    clear hD; intro hD
                    simp only [Act.put, List.setIfInBounds_toArray, set_cons_9]; try simp only [List.set_cons_zero, List.set_cons_succ]
                    refine wpAnyK_takeSD (i := 12) (d := some 69) (v := ?v10_12b2) (fuel := 17) rfl (by kernel_rfl) (by kernel_rfl) (by kernel_rfl) (fun _ _ _ h => h) hD (Below.refl _ _) (.inl ⟨by kernel_rfl, ?y10_12b2⟩) ?n10_12b2
                    case y10_12b2 => intro w' hS'; have e0 := cell_kept hS' (Nat.le_refl _) k1; have e1 := cell_kept hS' (Nat.le_refl _) k2; have e2 := cell_kept hS' (Nat.le_refl _) k3; have e3 := cell_kept hS' (Nat.le_refl _) k4; have e4 := cell_kept hS' (Nat.le_refl _) k5; have e5 := cell_kept hS' (Nat.le_refl _) k6; have e6 := cell_kept hS' (Nat.le_refl _) k7; go_simp; with_reducible rfl
                    clear hD; intro hD
                    simp only [Act.put, List.setIfInBounds_toArray, set_cons_9]; try simp only [List.set_cons_zero, List.set_cons_succ]
                    refine wpAnyK_pureD (i := 14) (d := some 71) (v := ?v10_14b2) (fuel := 16) rfl (by kernel_rfl) (by kernel_rfl) (fun _ _ _ h => h) hD (Below.refl _ _) (.inl ⟨by kernel_rfl, ?y10_14b2⟩) ?n10_14b2
                    case y10_14b2 => intro w' _; go_simp; with_reducible rfl
                    clear hD; intro hD
                    simp only [Act.put, List.setIfInBounds_toArray, set_cons_9]; try simp only [List.set_cons_zero, List.set_cons_succ]
                    refine wpAnyK_takeSD (i := 15) (d := some 72) (v := ?v10_15b2) (fuel := 15) rfl (by kernel_rfl) (by kernel_rfl) (by kernel_rfl) (fun _ _ _ h => h) hD (Below.refl _ _) (.inl ⟨by kernel_rfl, ?y10_15b2⟩) ?n10_15b2
                    case y10_15b2 => intro w' hS'; have e0 := cell_kept hS' (Nat.le_refl _) k1; have e1 := cell_kept hS' (Nat.le_refl _) k2; have e2 := cell_kept hS' (Nat.le_refl _) k3; have e3 := cell_kept hS' (Nat.le_refl _) k4; have e4 := cell_kept hS' (Nat.le_refl _) k5; have e5 := cell_kept hS' (Nat.le_refl _) k6; have e6 := cell_kept hS' (Nat.le_refl _) k7; go_simp; with_reducible rfl
                    clear hD; intro hD
                    simp only [Act.put, List.setIfInBounds_toArray, set_cons_9]; try simp only [List.set_cons_zero, List.set_cons_succ]
                    refine wpAnyK_pureD (i := 17) (d := some 74) (v := ?v10_17b2) (fuel := 14) rfl (by kernel_rfl) (by kernel_rfl) (fun _ _ _ h => h) hD (Below.refl _ _) (.inl ⟨by kernel_rfl, ?y10_17b2⟩) ?n10_17b2
                    case y10_17b2 => intro w' _; go_simp; with_reducible rfl
                    clear hD; intro hD
                    simp only [Act.put, List.setIfInBounds_toArray, set_cons_9]; try simp only [List.set_cons_zero, List.set_cons_succ]
                    refine wpAnyK_takeSD (i := 18) (d := some 75) (v := ?v10_18b2) (fuel := 13) rfl (by kernel_rfl) (by kernel_rfl) (by kernel_rfl) (fun _ _ _ h => h) hD (Below.refl _ _) (.inl ⟨by kernel_rfl, ?y10_18b2⟩) ?n10_18b2
                    case y10_18b2 => intro w' hS'; have e0 := cell_kept hS' (Nat.le_refl _) k1; have e1 := cell_kept hS' (Nat.le_refl _) k2; have e2 := cell_kept hS' (Nat.le_refl _) k3; have e3 := cell_kept hS' (Nat.le_refl _) k4; have e4 := cell_kept hS' (Nat.le_refl _) k5; have e5 := cell_kept hS' (Nat.le_refl _) k6; have e6 := cell_kept hS' (Nat.le_refl _) k7; go_simp; with_reducible rfl
                    clear hD; intro hD
                    simp only [Act.put, List.setIfInBounds_toArray, set_cons_9]; try simp only [List.set_cons_zero, List.set_cons_succ]
                    refine wpAnyK_pureD (i := 20) (d := some 77) (v := ?v10_20b2) (fuel := 12) rfl (by kernel_rfl) (by kernel_rfl) (fun _ _ _ h => h) hD (Below.refl _ _) (.inl ⟨by kernel_rfl, ?y10_20b2⟩) ?n10_20b2
                    case y10_20b2 => intro w' _; go_simp; with_reducible rfl
                    clear hD; intro hD
                    simp only [Act.put, List.setIfInBounds_toArray, set_cons_9]; try simp only [List.set_cons_zero, List.set_cons_succ]
                    refine wpAnyK_takeSD (i := 21) (d := some 78) (v := ?v10_21b2) (fuel := 11) rfl (by kernel_rfl) (by kernel_rfl) (by kernel_rfl) (fun _ _ _ h => h) hD (Below.refl _ _) (.inl ⟨by kernel_rfl, ?y10_21b2⟩) ?n10_21b2
                    case y10_21b2 => intro w' hS'; have e0 := cell_kept hS' (Nat.le_refl _) k1; have e1 := cell_kept hS' (Nat.le_refl _) k2; have e2 := cell_kept hS' (Nat.le_refl _) k3; have e3 := cell_kept hS' (Nat.le_refl _) k4; have e4 := cell_kept hS' (Nat.le_refl _) k5; have e5 := cell_kept hS' (Nat.le_refl _) k6; have e6 := cell_kept hS' (Nat.le_refl _) k7; go_simp; with_reducible rfl
                    clear hD; intro hD
                    simp only [Act.put, List.setIfInBounds_toArray, set_cons_9]; try simp only [List.set_cons_zero, List.set_cons_succ]
                    refine (show GhostK _ _ _ _ _ _ 25 7 10 _ _ (GI W7.drew (fun _ _ => True)) from ?_).2 _ ⟨Below.refl _ _, (fun h => by cases h), fun _ => trivial⟩
                    refine ghost_step (i := 25) (j := 3) (d := 7) (dj := 60) (fuel := 9) (fun (y : Unit) => .agg #[.int .i64 0, .string v.km, .string ⟨#[]⟩, .slice none 0 0]) (fun y => GI W7.drew (fun _ _ => True)) (by kernel_rfl) (by kernel_rfl) rfl rfl hD (by kernel_rfl) (by decide) (fun _ _ _ _ h => h.1) (fun _ _ _ h => h.1) (alloc_itemK rfl rfl (fun _ _ => by kernel_rfl) (fun _ _ _ _ => trivial)) ?_ ?_
                    · skip
                      intro b x w hI K hK
                      simp only [Act.put, List.setIfInBounds_toArray, set_cons_9] at hK ⊢
                      try simp only [List.set_cons_zero, List.set_cons_succ] at hK ⊢
                      have HK := Lib.hid hK
                      have HGI := Lib.hid hI
                      clear hK hI hD
                      go_wp2_with fail
                      refine (enc_NatV v.km _).mono ?_
                      rintro e w3 ⟨rfl, hb⟩
                      have HG2 := Lib.hid (HGI.out.step (J' := fun _ _ => True) hb (fun _ _ _ => trivial) (fun _ => trivial))
                      clear hb
                      go_wp2
                      exact HK.out () _ HG2.out
                    · skip
                      intro _ hD
                      simp only [Act.put, List.setIfInBounds_toArray, set_cons_9]
                      try simp only [List.set_cons_zero, List.set_cons_succ]
                      refine ghost_step (i := 25) (j := 7) (d := 7) (dj := 64) (fuel := 8) (fun (y : Unit) => .agg #[.int .i64 0, .string v.ko, .string ⟨#[]⟩, .slice none 0 0]) (fun y => GI W7.drew (fun _ _ => True)) (by kernel_rfl) (by kernel_rfl) rfl rfl hD (by kernel_rfl) (by decide) (fun _ _ _ _ h => h.1) (fun _ _ _ h => h.1) (alloc_itemK rfl rfl (fun _ _ => by kernel_rfl) (fun _ _ _ _ => trivial)) ?_ ?_
                      · skip
                        intro b x w hI K hK
                        simp only [Act.put, List.setIfInBounds_toArray, set_cons_9] at hK ⊢
                        try simp only [List.set_cons_zero, List.set_cons_succ] at hK ⊢
                        have HK := Lib.hid hK
                        have HGI := Lib.hid hI
                        clear hK hI hD
                        go_wp2_with fail
                        refine (enc_NatV v.ko _).mono ?_
                        rintro e w7 ⟨rfl, hb⟩
                        have HG2 := Lib.hid (HGI.out.step (J' := fun _ _ => True) hb (fun _ _ _ => trivial) (fun _ => trivial))
                        clear hb
                        go_wp2
                        exact HK.out () _ HG2.out
                      · skip
                        intro _ hD
                        simp only [Act.put, List.setIfInBounds_toArray, set_cons_9]
                        try simp only [List.set_cons_zero, List.set_cons_succ]
                        refine ghost_step (i := 25) (j := 10) (d := 7) (dj := 67) (fuel := 7) (fun (y : Unit) => .agg #[.int .i64 0, .string v.kz, .string ⟨#[]⟩, .slice none 0 0]) (fun y => GI W7.drew (fun _ _ => True)) (by kernel_rfl) (by kernel_rfl) rfl rfl hD (by kernel_rfl) (by decide) (fun _ _ _ _ h => h.1) (fun _ _ _ h => h.1) (alloc_itemK rfl rfl (fun _ _ => by kernel_rfl) (fun _ _ _ _ => trivial)) ?_ ?_
                        · skip
                          intro b x w hI K hK
                          simp only [Act.put, List.setIfInBounds_toArray, set_cons_9] at hK ⊢
                          try simp only [List.set_cons_zero, List.set_cons_succ] at hK ⊢
                          have HK := Lib.hid hK
                          have HGI := Lib.hid hI
                          clear hK hI hD
                          go_wp2_with fail
                          refine (enc_NatV v.kz _).mono ?_
                          rintro e w10 ⟨rfl, hb⟩
                          have HG2 := Lib.hid (HGI.out.step (J' := fun _ _ => True) hb (fun _ _ _ => trivial) (fun _ => trivial))
                          clear hb
                          go_wp2
                          exact HK.out () _ HG2.out
                        · skip
                          intro _ hD
                          simp only [Act.put, List.setIfInBounds_toArray, set_cons_9]
                          try simp only [List.set_cons_zero, List.set_cons_succ]
                          refine ghost_step (i := 25) (j := 13) (d := 7) (dj := 70) (fuel := 6) (fun (y : Unit) => .agg #[.int .i64 0, .string v.ks, .string ⟨#[]⟩, .slice none 0 0]) (fun y => GI W7.drew (fun _ _ => True)) (by kernel_rfl) (by kernel_rfl) rfl rfl hD (by kernel_rfl) (by decide) (fun _ _ _ _ h => h.1) (fun _ _ _ h => h.1) (alloc_itemK rfl rfl (fun _ _ => by kernel_rfl) (fun _ _ _ _ => trivial)) ?_ ?_
                          · skip
                            intro b x w hI K hK
                            simp only [Act.put, List.setIfInBounds_toArray, set_cons_9] at hK ⊢
                            try simp only [List.set_cons_zero, List.set_cons_succ] at hK ⊢
                            have HK := Lib.hid hK
                            have HGI := Lib.hid hI
                            clear hK hI hD
                            go_wp2_with fail
                            refine (enc_NatV v.ks _).mono ?_
                            rintro e w13 ⟨rfl, hb⟩
                            have HG2 := Lib.hid (HGI.out.step (J' := fun _ _ => True) hb (fun _ _ _ => trivial) (fun _ => trivial))
                            clear hb
                            go_wp2
                            exact HK.out () _ HG2.out
                          · skip
                            intro _ hD
                            simp only [Act.put, List.setIfInBounds_toArray, set_cons_9]
                            try simp only [List.set_cons_zero, List.set_cons_succ]
                            refine ghost_step (i := 25) (j := 16) (d := 7) (dj := 73) (fuel := 5) (fun (y : Option Addr × Nat × Nat) => .agg #[.int .i64 2, .string ⟨#[]⟩, .string ⟨#[]⟩, .slice y.1 y.2.1 y.2.2]) (fun y => GI W7.drew (fun _ w => SlAt w (fun _ => True) y.1 y.2.1 y.2.2 (v.kr.map natIt))) (by kernel_rfl) (by kernel_rfl) rfl rfl hD (by kernel_rfl) (by decide) (fun _ _ _ _ h => h.1) (fun _ _ _ h => h.1) (alloc_itemK rfl rfl (fun _ _ => by kernel_rfl) (fun _ _ _ _ => trivial)) ?_ ?_
                            · skip
                              intro b x w hI K hK
                              simp only [Act.put, List.setIfInBounds_toArray, set_cons_9] at hK ⊢
                              try simp only [List.set_cons_zero, List.set_cons_succ] at hK ⊢
                              have HK := Lib.hid hK
                              have HGI := Lib.hid hI
                              clear hK hI hD
                              go_wp2_with fail
                              refine (ky_list v.kr A n c _ (HSL7.out.kept HGI.out.1 (Nat.le_refl _)) (by omega)).mono ?_
                              rintro e w16 ⟨v16, rfl, ⟨A5, l5, c5, rfl, hs5⟩, hb⟩
                              have HG2 := Lib.hid (HGI.out.step (J' := fun _ w => SlAt w (fun _ => True) A5 l5 c5 (v.kr.map natIt)) hb (fun _ _ _ => hs5.low fun _ _ => trivial) (fun _ => hs5.low fun _ _ => trivial))
                              clear hb hs5
                              go_wp2
                              exact HK.out (A5, l5, c5) _ HG2.out
                            · rintro ⟨A5, l5, c5⟩ hD
                              dsimp only at hD ⊢
                              simp only [Act.put, List.setIfInBounds_toArray, set_cons_9]
                              try simp only [List.set_cons_zero, List.set_cons_succ]
                              refine ghost_step (i := 25) (j := 19) (d := 7) (dj := 76) (fuel := 4) (fun (y : Unit) => .agg #[.int .i64 0, .string v.ku, .string ⟨#[]⟩, .slice none 0 0]) (fun y => GI W7.drew (fun _ w => SlAt w (fun _ => True) A5 l5 c5 (v.kr.map natIt))) (by kernel_rfl) (by kernel_rfl) rfl rfl hD (by kernel_rfl) (by decide) (fun _ _ _ _ h => h.1) (fun _ _ _ h => h.1) (alloc_itemK rfl rfl (fun _ _ => by kernel_rfl) (fun _ _ hb h => h.below hb (Nat.le_refl _))) ?_ ?_
                              · skip
                                intro b x w hI K hK
                                simp only [Act.put, List.setIfInBounds_toArray, set_cons_9] at hK ⊢
                                try simp only [List.set_cons_zero, List.set_cons_succ] at hK ⊢
                                have HK := Lib.hid hK
                                have HGI := Lib.hid hI
                                clear hK hI hD
                                go_wp2_with fail
                                refine (enc_NatV v.ku _).mono ?_
                                rintro e w19 ⟨rfl, hb⟩
                                have HG2 := Lib.hid (HGI.out.step (J' := fun _ w => SlAt w (fun _ => True) A5 l5 c5 (v.kr.map natIt)) hb (fun _ _ h => h.below hb (Nat.le_refl _)) (fun h => h.below hb (Nat.le_refl _)))
                                clear hb
                                go_wp2
                                exact HK.out () _ HG2.out
                              · skip
                                intro _ hD
                                simp only [Act.put, List.setIfInBounds_toArray, set_cons_9]
                                try simp only [List.set_cons_zero, List.set_cons_succ]
                                refine ghost_step (i := 25) (j := 22) (d := 7) (dj := 79) (fuel := 3) (fun (y : Unit) => .agg #[.int .i64 0, .string v.kh, .string ⟨#[]⟩, .slice none 0 0]) (fun y => GI W7.drew (fun _ w => SlAt w (fun _ => True) A5 l5 c5 (v.kr.map natIt))) (by kernel_rfl) (by kernel_rfl) rfl rfl hD (by kernel_rfl) (by decide) (fun _ _ _ _ h => h.1) (fun _ _ _ h => h.1) (alloc_itemK rfl rfl (fun _ _ => by kernel_rfl) (fun _ _ hb h => h.below hb (Nat.le_refl _))) ?_ ?_
                                · skip
                                  intro b x w hI K hK
                                  simp only [Act.put, List.setIfInBounds_toArray, set_cons_9] at hK ⊢
                                  try simp only [List.set_cons_zero, List.set_cons_succ] at hK ⊢
                                  have HK := Lib.hid hK
                                  have HGI := Lib.hid hI
                                  clear hK hI hD
                                  go_wp2_with fail
                                  refine (enc_NatV v.kh _).mono ?_
                                  rintro e w22 ⟨rfl, hb⟩
                                  have HG2 := Lib.hid (HGI.out.step (J' := fun _ w => SlAt w (fun _ => True) A5 l5 c5 (v.kr.map natIt)) hb (fun _ _ h => h.below hb (Nat.le_refl _)) (fun h => h.below hb (Nat.le_refl _)))
                                  clear hb
                                  go_wp2
                                  exact HK.out () _ HG2.out
                                · skip
                                  intro _ hD
                                  simp only [Act.put, List.setIfInBounds_toArray, set_cons_9]
                                  try simp only [List.set_cons_zero, List.set_cons_succ]
                                  refine ghost_step (i := 25) (j := 23) (d := 7) (dj := 80) (fuel := 2) (fun (y : Nat) => .slice (some ⟨y, 0, none⟩) 7 7) (fun y => GI W7.drew (fun _ w => SlAt w (fun _ => True) (some ⟨y, 0, none⟩) 7 7 v.kit.list)) (by kernel_rfl) (by kernel_rfl) rfl rfl hD (by kernel_rfl) (by decide) (fun _ _ _ _ h => h.1) (fun _ _ _ h => h.1) (alloc_itemK rfl rfl (fun _ _ => by kernel_rfl) (fun _ _ hb h => h.below hb (Nat.le_refl _))) ?_ ?_
                                  · skip
                                    intro b x w hI K hK
                                    simp only [Act.put, List.setIfInBounds_toArray, set_cons_9] at hK ⊢
                                    try simp only [List.set_cons_zero, List.set_cons_succ] at hK ⊢
                                    have HK := Lib.hid hK
                                    have HGI := Lib.hid hI
                                    clear hK hI hD
                                    go_wp2
                                    refine name_world ?_
                                    intro w23 hw23
                                    have hb := below_allocK hw23
                                    have hI5 : SlAt w (fun _ => True) A5 l5 c5 (v.kr.map natIt) := HGI.out.get fun _ h => h
                                    have hr := row7 (bxc_alloc hw23) (SlAt.nil _ (fun _ => True)) (hI5.below hb (Nat.le_refl _))
                                    exact HK.out w.heap.size _ (HGI.out.step hb (fun _ _ _ => hr) (fun _ => hr))
                                  · intro B23 hD
                                    simp only [Act.put, List.setIfInBounds_toArray, set_cons_9]
                                    try simp only [List.set_cons_zero, List.set_cons_succ]
                                    refine ghost_step (i := 25) (j := 24) (d := 7) (dj := 81) (fuel := 1) (fun (y : Option Addr × Nat × Nat) => .agg #[.int .i64 2, .string ⟨#[]⟩, .string ⟨#[]⟩, .slice y.1 y.2.1 y.2.2]) (fun y => GI W7.drew (fun ok w => SlAt w ok y.1 y.2.1 y.2.2 v.kit.list)) (by kernel_rfl) (by kernel_rfl) rfl rfl hD (by kernel_rfl) (by decide) (fun _ _ _ _ h => h.1) (fun _ _ _ h => h.1) (alloc_itemK rfl rfl (fun _ _ => by kernel_rfl) (fun _ _ hb h => h.below hb (Nat.le_refl _))) ?_ ?_
                                    · skip
                                      intro b x w hI K hK
                                      simp only [Act.put, List.setIfInBounds_toArray, set_cons_9] at hK ⊢
                                      try simp only [List.set_cons_zero, List.set_cons_succ] at hK ⊢
                                      have HK := Lib.hid hK
                                      have HGI := Lib.hid hI
                                      clear hK hI hD
                                      have HR23 := Lib.hid (show SlAt w (fun _ => True) (some ⟨B23, 0, none⟩) 7 7 v.kit.list from HGI.out.get fun _ h => h)
                                      go_wp2_with fail
                                      refine (enc_List _ _ 7 7 _ _ HKN.out HR23.out).mono ?_
                                      rintro e w24 ⟨v24, rfl, ⟨A7, l7, c7, rfl, hs7⟩, hb⟩
                                      have HG2 := Lib.hid (HGI.out.step (J' := fun ok w => SlAt w ok A7 l7 c7 v.kit.list) hb (fun ok h _ => hs7.low h) (fun _ => hs7.bound.low fun _ h => h.2))
                                      clear hb hs7
                                      go_wp2
                                      exact HK.out (A7, l7, c7) _ HG2.out
                                    · rintro ⟨A7, l7, c7⟩ hD
                                      dsimp only at hD ⊢
                                      simp only [Act.put, List.setIfInBounds_toArray, set_cons_9]
                                      try simp only [List.set_cons_zero, List.set_cons_succ]
                                      refine ghost_end (by kernel_rfl) rfl hD (fun _ _ _ h => h.1) (alloc_itemK rfl rfl (fun _ _ => by kernel_rfl) (fun _ _ hb h => (h.low fun _ hlt => Nat.ne_of_lt hlt).below hb (Nat.le_refl _))) ?_
                                      intro x w25 hI hD
                                      obtain ⟨hS25, hx, _⟩ := hI
                                      obtain ⟨B7, rfl, hBL, hZ, hJ⟩ := hx rfl
                                      have HZ := Lib.hid hZ
                                      have HJ := Lib.hid hJ
                                      have HBL := Lib.hid hBL
                                      have HS25 := Lib.hid hS25
                                      clear hx hBL hZ hJ hS25
                                      simp only [Act.put, List.setIfInBounds_toArray, set_cons_9]
                                      try simp only [List.set_cons_zero, List.set_cons_succ]
                                      refine wpAnyK_one (i := 26) (fuel := 0) (by kernel_rfl) rfl hD ?_
                                      clear hD; intro K26 hK26
                                      refine wpList_store_rowTo rfl 60 _ _ rfl rfl B7 #[.int .i64 2, .string ⟨#[]⟩, .string ⟨#[]⟩, .slice A7 l7 c7] rfl rfl 60 itZ HZ.out (by kernel_rfl) rfl (by simp [Value.oneCell']) ?_
                                      have HT := Lib.hid (show BxC _ B7 #[.int .i64 2, .string ⟨#[]⟩, .string ⟨#[]⟩, .slice A7 l7 c7] 60 from setRow_heap _ _ _ #[.int .i64 2, .string ⟨#[]⟩, .string ⟨#[]⟩, .slice A7 l7 c7] _ _ HZ.out)
                                      have HJ := Lib.hid (HJ.out.row (B := B7) (fun b h => h) #[.int .i64 2, .string ⟨#[]⟩, .string ⟨#[]⟩, .slice A7 l7 c7])
                                      go_wp2
                                      refine hK26 _ _ (by exact below_setRow HS25.out HBL.out _) ?_; clear hK26; intro hS26 hD
                                      refine wpAnyK_done (by kernel_rfl) ?_ 0
                                      clear hD
                                      refine rest10 B7 _ A7 l7 c7 HT.out HJ.out hS26 _ _ _ _ _ _ _ _ _ _ _ _ _ _ _ _ _ _ _ _ _ _ _ _ _ _ _ _ _ _ _ _ _ _ _ _ _ _ _ _ _ _ _ _ _ _ _ _ _ _ _ _ _ _ _ _ _ _ _ _ _ _ _ _ _ _ _ _ _ _ _ _
    refine wp_onlyN ?_
    have HP6 := trivial
    have HQ6 := trivial
    refine wp_region_K 8 (Below (W.drew).heap.size (W.drew)) (by kernel_rfl) ?_
    intro hD
    refine wpAnyK_pureD (i := 0) (d := some 15) (v := ?v5_0b3) (fuel := 7) rfl (by kernel_rfl) (by kernel_rfl) (fun _ _ _ h => h) hD (Below.refl _ _) (.inl ⟨by kernel_rfl, ?y5_0b3⟩) ?n5_0b3
    case y5_0b3 => intro w' _; go_simp; with_reducible rfl
    clear hD; intro hD
    simp only [Act.put, sqA, sqB, sqC]
    refine wpAnyK_takeSD (i := 1) (d := some 16) (v := ?v5_1b3) (fuel := 6) rfl (by kernel_rfl) (by kernel_rfl) (by kernel_rfl) (fun _ _ _ h => h) hD (Below.refl _ _) (.inl ⟨by kernel_rfl, ?y5_1b3⟩) ?n5_1b3
    case y5_1b3 => intro w' hS'; have e0 := cell_kept hS' (Nat.le_refl _) x2; have e1 := cell_kept hS' (Nat.le_refl _) x3; have e2 := cell_kept hS' (Nat.le_refl _) x4; have e3 := cell_kept hS' (Nat.le_refl _) x5; have e4 := cell_kept hS' (Nat.le_refl _) x6; have e5 := cell_kept hS' (Nat.le_refl _) x7; have e6 := cell_kept hS' (Nat.le_refl _) x8; have e7 := cell_kept hS' (Nat.le_refl _) x9; have e8 := cell_kept hS' (Nat.le_refl _) x10; have e9 := cell_kept hS' (Nat.le_refl _) x11; have e10 := cell_kept hS' (Nat.le_refl _) x12; have e11 := cell_kept hS' (Nat.le_refl _) x13; go_simp; with_reducible rfl
    clear hD; intro hD
    simp only [Act.put, sqA, sqB, sqC]
    refine wpAnyK_pureD (i := 2) (d := some 17) (v := ?v5_2b3) (fuel := 5) rfl (by kernel_rfl) (by kernel_rfl) (fun _ _ _ h => h) hD (Below.refl _ _) (.inl ⟨by kernel_rfl, ?y5_2b3⟩) ?n5_2b3
    case y5_2b3 => intro w' _; go_simp; with_reducible rfl
    clear hD; intro hD
    simp only [Act.put, sqA, sqB, sqC]
    refine wpAnyK_takeSD (i := 3) (d := some 18) (v := ?v5_3b3) (fuel := 4) rfl (by kernel_rfl) (by kernel_rfl) (by kernel_rfl) (fun _ _ _ h => h) hD (Below.refl _ _) (.inl ⟨by kernel_rfl, ?y5_3b3⟩) ?n5_3b3
    case y5_3b3 => intro w' hS'; have e0 := cell_kept hS' (Nat.le_refl _) x2; have e1 := cell_kept hS' (Nat.le_refl _) x3; have e2 := cell_kept hS' (Nat.le_refl _) x4; have e3 := cell_kept hS' (Nat.le_refl _) x5; have e4 := cell_kept hS' (Nat.le_refl _) x6; have e5 := cell_kept hS' (Nat.le_refl _) x7; have e6 := cell_kept hS' (Nat.le_refl _) x8; have e7 := cell_kept hS' (Nat.le_refl _) x9; have e8 := cell_kept hS' (Nat.le_refl _) x10; have e9 := cell_kept hS' (Nat.le_refl _) x11; have e10 := cell_kept hS' (Nat.le_refl _) x12; have e11 := cell_kept hS' (Nat.le_refl _) x13; go_simp; with_reducible rfl
    clear hD; intro hD
    simp only [Act.put, sqA, sqB, sqC]
    refine wpAnyK_two (i := 4) (i' := 5) (fuel := 3) (by kernel_rfl) rfl rfl hD ?_ ?_ 
    · unfold StepK
      clear hD; intro K4 hK4
      go_wp2
      refine hK4 _ _ (by exact (Below.refl _ _).alloc (Nat.le_refl _) _) ?_; clear hK4; intro hS_5_4 hD
      refine wpAnyK_one (i := 5) (fuel := 2) (by kernel_rfl) rfl hD ?_
      clear hD; intro K5 hK5
      go_wp2
      refine hK5 _ _ (by exact Below.alloc hS_5_4 (Below.size hS_5_4) _) ?_; clear hK5; intro hS_5_5_4 hD
      refine wpAnyK_one (i := 6) (fuel := 1) (by kernel_rfl) rfl hD ?_
      clear hD; intro K6 hK6
      first
      | (refine wpList_store_rowTo rfl 31 _ _ rfl rfl W.heap.size (v.key (.slice A n c)) rfl rfl 31 (ver0.key (.slice none 0 0)) (BxC.new W.drew (ver0.key (.slice none 0 0)) 31) (by kernel_rfl) rfl (v.key_one A n c) ?_
         have HP6 := Lib.hid (show BxC ((W.drew.alloc (.cells (ver0.key (.slice none 0 0)) 31)).setRow W.heap.size (v.key (.slice A n c))) W.heap.size (v.key (.slice A n c)) 31 from setRow_heap _ _ _ _ _ _ (BxC.new W.drew (ver0.key (.slice none 0 0)) 31))
         have HQ6 := Lib.hid (True.intro)
         have HL6 := Lib.hid (show Below W.drew.heap.size W.drew ((W.drew.alloc (.cells (ver0.key (.slice none 0 0)) 31)).setRow W.heap.size (v.key (.slice A n c))) from below_setRow ((Below.refl _ _).alloc (Nat.le_refl _) _) (Nat.le_refl _) _)
         have hne6 := True.intro
         show wpList _ _ _ _ _ ((W.drew.alloc (.cells (ver0.key (.slice none 0 0)) 31)).setRow W.heap.size (v.key (.slice A n c)))
         obtain ⟨w6, hw6⟩ : ∃ w6, (W.drew.alloc (.cells (ver0.key (.slice none 0 0)) 31)).setRow W.heap.size (v.key (.slice A n c)) = w6 := ⟨_, rfl⟩)
      | (refine wpList_store_rowTo rfl 31 _ _ rfl rfl (W.heap.size + 1) (v.key (.slice A n c)) rfl rfl 31 (ver0.key (.slice none 0 0)) (BxC.new1 W.drew (ver0.key (.slice none 0 0)) 31 (.cells (ver0.sgn) 26)) (by kernel_rfl) rfl (v.key_one A n c) ?_
         have HP6 := Lib.hid (show BxC (((W.drew.alloc (.cells (ver0.sgn) 26)).alloc (.cells (ver0.key (.slice none 0 0)) 31)).setRow (W.heap.size + 1) (v.key (.slice A n c))) (W.heap.size + 1) (v.key (.slice A n c)) 31 from setRow_heap _ _ _ _ _ _ (BxC.new1 W.drew (ver0.key (.slice none 0 0)) 31 (.cells (ver0.sgn) 26)))
         have HQ6 := Lib.hid (show BxC (((W.drew.alloc (.cells (ver0.sgn) 26)).alloc (.cells (ver0.key (.slice none 0 0)) 31)).setRow (W.heap.size + 1) (v.key (.slice A n c))) W.heap.size ver0.sgn 26 from (BxC.alloc (BxC.new W.drew ver0.sgn 26) _).row (show W.heap.size ≠ W.heap.size + 1 from by omega))
         have HL6 := Lib.hid (show Below W.drew.heap.size W.drew (((W.drew.alloc (.cells (ver0.sgn) 26)).alloc (.cells (ver0.key (.slice none 0 0)) 31)).setRow (W.heap.size + 1) (v.key (.slice A n c))) from below_setRow (((Below.refl _ _).alloc (Nat.le_refl _) _).alloc (by simp) _) (Nat.le_succ _) _)
         have hne6 : W.heap.size + 1 ≠ W.heap.size := by omega
         show wpList _ _ _ _ _ (((W.drew.alloc (.cells (ver0.sgn) 26)).alloc (.cells (ver0.key (.slice none 0 0)) 31)).setRow (W.heap.size + 1) (v.key (.slice A n c)))
         obtain ⟨w6, hw6⟩ : ∃ w6, ((W.drew.alloc (.cells (ver0.sgn) 26)).alloc (.cells (ver0.key (.slice none 0 0)) 31)).setRow (W.heap.size + 1) (v.key (.slice A n c)) = w6 := ⟨_, rfl⟩)
      | (refine wpList_store_rowTo rfl 31 _ _ rfl rfl W.heap.size (v.key (.slice A n c)) rfl rfl 31 (ver0.key (.slice none 0 0)) (BxC.alloc (BxC.new W.drew (ver0.key (.slice none 0 0)) 31) (.cells (ver0.sgn) 26)) (by kernel_rfl) rfl (v.key_one A n c) ?_
         have HP6 := Lib.hid (show BxC (((W.drew.alloc (.cells (ver0.key (.slice none 0 0)) 31)).alloc (.cells (ver0.sgn) 26)).setRow W.heap.size (v.key (.slice A n c))) W.heap.size (v.key (.slice A n c)) 31 from setRow_heap _ _ _ _ _ _ (BxC.alloc (BxC.new W.drew (ver0.key (.slice none 0 0)) 31) (.cells (ver0.sgn) 26)))
         have HQ6 := Lib.hid (show BxC (((W.drew.alloc (.cells (ver0.key (.slice none 0 0)) 31)).alloc (.cells (ver0.sgn) 26)).setRow W.heap.size (v.key (.slice A n c))) (W.heap.size + 1) ver0.sgn 26 from (BxC.new1 W.drew ver0.sgn 26 _).row (show W.heap.size + 1 ≠ W.heap.size from by omega))
         have HL6 := Lib.hid (show Below W.drew.heap.size W.drew (((W.drew.alloc (.cells (ver0.key (.slice none 0 0)) 31)).alloc (.cells (ver0.sgn) 26)).setRow W.heap.size (v.key (.slice A n c))) from below_setRow (((Below.refl _ _).alloc (Nat.le_refl _) _).alloc (by simp) _) (Nat.le_refl _) _)
         have hne6 : W.heap.size ≠ W.heap.size + 1 := by omega
         show wpList _ _ _ _ _ (((W.drew.alloc (.cells (ver0.key (.slice none 0 0)) 31)).alloc (.cells (ver0.sgn) 26)).setRow W.heap.size (v.key (.slice A n c)))
         obtain ⟨w6, hw6⟩ : ∃ w6, ((W.drew.alloc (.cells (ver0.key (.slice none 0 0)) 31)).alloc (.cells (ver0.sgn) 26)).setRow W.heap.size (v.key (.slice A n c)) = w6 := ⟨_, rfl⟩)
      rw [hw6] at HP6 HL6 ⊢
      try rw [hw6] at HQ6
      clear hw6
      go_wp2
      refine hK6 _ _ (by exact HL6.out) ?_; clear hK6; intro hS_5_6_4 hD
      refine wpAnyK_one (i := 7) (fuel := 0) (by kernel_rfl) rfl hD ?_
      clear hD; intro K7 hK7
      first
      | (refine wpList_store_rowTo rfl 26 _ _ rfl rfl (W.heap.size + 1) v.sgn rfl rfl 26 ver0.sgn HQ6.out (by kernel_rfl) rfl v.sgn_one ?_
         have HP7 := Lib.hid (HP6.out.row (C := W.heap.size + 1) (ds := v.sgn) hne6)
         have HQ7 := Lib.hid (show BxC _ _ v.sgn 26 from setRow_heap _ _ _ v.sgn _ _ HQ6.out)
         have HL7 := Lib.hid (below_setRow HL6.out (g := W.heap.size + 1) (Nat.le_add_right _ _) v.sgn))
      | (refine wpList_store_rowTo rfl 26 _ _ rfl rfl (W.heap.size) v.sgn rfl rfl 26 ver0.sgn HQ6.out (by kernel_rfl) rfl v.sgn_one ?_
         have HP7 := Lib.hid (HP6.out.row (C := W.heap.size) (ds := v.sgn) hne6)
         have HQ7 := Lib.hid (show BxC _ _ v.sgn 26 from setRow_heap _ _ _ v.sgn _ _ HQ6.out)
         have HL7 := Lib.hid (below_setRow HL6.out (g := W.heap.size) (Nat.le_refl _) v.sgn))
      | (have hlt6 := HP6.out.lt
         refine wpList_store_rowTo rfl 26 _ _ rfl rfl w6.heap.size v.sgn rfl rfl 26 ver0.sgn (BxC.new w6 ver0.sgn 26) (by kernel_rfl) rfl v.sgn_one ?_
         have HP7 := Lib.hid ((HP6.out.alloc (.cells ver0.sgn 26)).row (C := w6.heap.size) (ds := v.sgn) (by omega))
         have HQ7 := Lib.hid (show BxC _ _ v.sgn 26 from setRow_heap _ _ _ v.sgn _ _ (BxC.new w6 ver0.sgn 26))
         have HL7 := Lib.hid (below_setRow (HL6.out.alloc HL6.out.size (.cells ver0.sgn 26)) (g := w6.heap.size) HL6.out.size v.sgn))
      go_wp2
      refine hK7 _ _ (by exact HL7.out) ?_; clear hK7; intro hS_5_7_4 hD
      refine wpAnyK_done (by kernel_rfl) ?_ 0
      clear hD
      exact rest _ _ _ HP7.out HQ7.out HL7.out
    · unfold StepK
      clear hD; intro K5 hK5
      go_wp2
      refine hK5 _ _ (by exact (Below.refl _ _).alloc (Nat.le_refl _) _) ?_; clear hK5; intro hS_5_5 hD
      refine wpAnyK_one (i := 4) (fuel := 2) (by kernel_rfl) rfl hD ?_
      clear hD; intro K4 hK4
      go_wp2
      refine hK4 _ _ (by exact Below.alloc hS_5_5 (Below.size hS_5_5) _) ?_; clear hK4; intro hS_5_4_5 hD
      refine wpAnyK_one (i := 6) (fuel := 1) (by kernel_rfl) rfl hD ?_
      clear hD; intro K6 hK6
      first
      | (refine wpList_store_rowTo rfl 31 _ _ rfl rfl W.heap.size (v.key (.slice A n c)) rfl rfl 31 (ver0.key (.slice none 0 0)) (BxC.new W.drew (ver0.key (.slice none 0 0)) 31) (by kernel_rfl) rfl (v.key_one A n c) ?_
         have HP6 := Lib.hid (show BxC ((W.drew.alloc (.cells (ver0.key (.slice none 0 0)) 31)).setRow W.heap.size (v.key (.slice A n c))) W.heap.size (v.key (.slice A n c)) 31 from setRow_heap _ _ _ _ _ _ (BxC.new W.drew (ver0.key (.slice none 0 0)) 31))
         have HQ6 := Lib.hid (True.intro)
         have HL6 := Lib.hid (show Below W.drew.heap.size W.drew ((W.drew.alloc (.cells (ver0.key (.slice none 0 0)) 31)).setRow W.heap.size (v.key (.slice A n c))) from below_setRow ((Below.refl _ _).alloc (Nat.le_refl _) _) (Nat.le_refl _) _)
         have hne6 := True.intro
         show wpList _ _ _ _ _ ((W.drew.alloc (.cells (ver0.key (.slice none 0 0)) 31)).setRow W.heap.size (v.key (.slice A n c)))
         obtain ⟨w6, hw6⟩ : ∃ w6, (W.drew.alloc (.cells (ver0.key (.slice none 0 0)) 31)).setRow W.heap.size (v.key (.slice A n c)) = w6 := ⟨_, rfl⟩)
      | (refine wpList_store_rowTo rfl 31 _ _ rfl rfl (W.heap.size + 1) (v.key (.slice A n c)) rfl rfl 31 (ver0.key (.slice none 0 0)) (BxC.new1 W.drew (ver0.key (.slice none 0 0)) 31 (.cells (ver0.sgn) 26)) (by kernel_rfl) rfl (v.key_one A n c) ?_
         have HP6 := Lib.hid (show BxC (((W.drew.alloc (.cells (ver0.sgn) 26)).alloc (.cells (ver0.key (.slice none 0 0)) 31)).setRow (W.heap.size + 1) (v.key (.slice A n c))) (W.heap.size + 1) (v.key (.slice A n c)) 31 from setRow_heap _ _ _ _ _ _ (BxC.new1 W.drew (ver0.key (.slice none 0 0)) 31 (.cells (ver0.sgn) 26)))
         have HQ6 := Lib.hid (show BxC (((W.drew.alloc (.cells (ver0.sgn) 26)).alloc (.cells (ver0.key (.slice none 0 0)) 31)).setRow (W.heap.size + 1) (v.key (.slice A n c))) W.heap.size ver0.sgn 26 from (BxC.alloc (BxC.new W.drew ver0.sgn 26) _).row (show W.heap.size ≠ W.heap.size + 1 from by omega))
         have HL6 := Lib.hid (show Below W.drew.heap.size W.drew (((W.drew.alloc (.cells (ver0.sgn) 26)).alloc (.cells (ver0.key (.slice none 0 0)) 31)).setRow (W.heap.size + 1) (v.key (.slice A n c))) from below_setRow (((Below.refl _ _).alloc (Nat.le_refl _) _).alloc (by simp) _) (Nat.le_succ _) _)
         have hne6 : W.heap.size + 1 ≠ W.heap.size := by omega
         show wpList _ _ _ _ _ (((W.drew.alloc (.cells (ver0.sgn) 26)).alloc (.cells (ver0.key (.slice none 0 0)) 31)).setRow (W.heap.size + 1) (v.key (.slice A n c)))
         obtain ⟨w6, hw6⟩ : ∃ w6, ((W.drew.alloc (.cells (ver0.sgn) 26)).alloc (.cells (ver0.key (.slice none 0 0)) 31)).setRow (W.heap.size + 1) (v.key (.slice A n c)) = w6 := ⟨_, rfl⟩)
      | (refine wpList_store_rowTo rfl 31 _ _ rfl rfl W.heap.size (v.key (.slice A n c)) rfl rfl 31 (ver0.key (.slice none 0 0)) (BxC.alloc (BxC.new W.drew (ver0.key (.slice none 0 0)) 31) (.cells (ver0.sgn) 26)) (by kernel_rfl) rfl (v.key_one A n c) ?_
         have HP6 := Lib.hid (show BxC (((W.drew.alloc (.cells (ver0.key (.slice none 0 0)) 31)).alloc (.cells (ver0.sgn) 26)).setRow W.heap.size (v.key (.slice A n c))) W.heap.size (v.key (.slice A n c)) 31 from setRow_heap _ _ _ _ _ _ (BxC.alloc (BxC.new W.drew (ver0.key (.slice none 0 0)) 31) (.cells (ver0.sgn) 26)))
         have HQ6 := Lib.hid (show BxC (((W.drew.alloc (.cells (ver0.key (.slice none 0 0)) 31)).alloc (.cells (ver0.sgn) 26)).setRow W.heap.size (v.key (.slice A n c))) (W.heap.size + 1) ver0.sgn 26 from (BxC.new1 W.drew ver0.sgn 26 _).row (show W.heap.size + 1 ≠ W.heap.size from by omega))
         have HL6 := Lib.hid (show Below W.drew.heap.size W.drew (((W.drew.alloc (.cells (ver0.key (.slice none 0 0)) 31)).alloc (.cells (ver0.sgn) 26)).setRow W.heap.size (v.key (.slice A n c))) from below_setRow (((Below.refl _ _).alloc (Nat.le_refl _) _).alloc (by simp) _) (Nat.le_refl _) _)
         have hne6 : W.heap.size ≠ W.heap.size + 1 := by omega
         show wpList _ _ _ _ _ (((W.drew.alloc (.cells (ver0.key (.slice none 0 0)) 31)).alloc (.cells (ver0.sgn) 26)).setRow W.heap.size (v.key (.slice A n c)))
         obtain ⟨w6, hw6⟩ : ∃ w6, ((W.drew.alloc (.cells (ver0.key (.slice none 0 0)) 31)).alloc (.cells (ver0.sgn) 26)).setRow W.heap.size (v.key (.slice A n c)) = w6 := ⟨_, rfl⟩)
      rw [hw6] at HP6 HL6 ⊢
      try rw [hw6] at HQ6
      clear hw6
      go_wp2
      refine hK6 _ _ (by exact HL6.out) ?_; clear hK6; intro hS_5_6_5 hD
      refine wpAnyK_one (i := 7) (fuel := 0) (by kernel_rfl) rfl hD ?_
      clear hD; intro K7 hK7
      first
      | (refine wpList_store_rowTo rfl 26 _ _ rfl rfl (W.heap.size + 1) v.sgn rfl rfl 26 ver0.sgn HQ6.out (by kernel_rfl) rfl v.sgn_one ?_
         have HP7 := Lib.hid (HP6.out.row (C := W.heap.size + 1) (ds := v.sgn) hne6)
         have HQ7 := Lib.hid (show BxC _ _ v.sgn 26 from setRow_heap _ _ _ v.sgn _ _ HQ6.out)
         have HL7 := Lib.hid (below_setRow HL6.out (g := W.heap.size + 1) (Nat.le_add_right _ _) v.sgn))
      | (refine wpList_store_rowTo rfl 26 _ _ rfl rfl (W.heap.size) v.sgn rfl rfl 26 ver0.sgn HQ6.out (by kernel_rfl) rfl v.sgn_one ?_
         have HP7 := Lib.hid (HP6.out.row (C := W.heap.size) (ds := v.sgn) hne6)
         have HQ7 := Lib.hid (show BxC _ _ v.sgn 26 from setRow_heap _ _ _ v.sgn _ _ HQ6.out)
         have HL7 := Lib.hid (below_setRow HL6.out (g := W.heap.size) (Nat.le_refl _) v.sgn))
      | (have hlt6 := HP6.out.lt
         refine wpList_store_rowTo rfl 26 _ _ rfl rfl w6.heap.size v.sgn rfl rfl 26 ver0.sgn (BxC.new w6 ver0.sgn 26) (by kernel_rfl) rfl v.sgn_one ?_
         have HP7 := Lib.hid ((HP6.out.alloc (.cells ver0.sgn 26)).row (C := w6.heap.size) (ds := v.sgn) (by omega))
         have HQ7 := Lib.hid (show BxC _ _ v.sgn 26 from setRow_heap _ _ _ v.sgn _ _ (BxC.new w6 ver0.sgn 26))
         have HL7 := Lib.hid (below_setRow (HL6.out.alloc HL6.out.size (.cells ver0.sgn 26)) (g := w6.heap.size) HL6.out.size v.sgn))
      go_wp2
      refine hK7 _ _ (by exact HL7.out) ?_; clear hK7; intro hS_5_7_5 hD
      refine wpAnyK_done (by kernel_rfl) ?_ 0
      clear hD
      exact rest _ _ _ HP7.out HQ7.out HL7.out
end Go.Proofs.YtecmmdealjhdpaaGreat
/- Walk: keyring.Rotate. -/
set_option linter.unusedVariables false
set_option linter.unusedSimpArgs false
namespace Go.Proofs.YtecmmdealjhdpaaGreat
open Go.RowKit
open Go.Maps Go.WideMaps
def Ver.next (v u : Ver) : Ver := ⟨v.name, u.num + 1, v.kn, v.km, v.ko, v.kz, v.ks, v.kr, v.ku, v.kh, v.sm, v.so, v.sg, v.sy, v.fr, 4096, ⟨#[]⟩, ⟨#[]⟩⟩
def Ver.ended (u : Ver) (e : Int) : Ver := ⟨u.name, u.num, u.kn, u.km, u.ko, u.kz, u.ks, u.kr, u.ku, u.kh, u.sm, u.so, u.sg, u.sy, u.fr, e, ⟨#[]⟩, ⟨#[]⟩⟩
def rotL (l : List Ver) (i : Nat) (u : Ver) (e : Int) : List Ver := if e < u.to then l.set i (u.ended e) else l
def Ver.calm (v : Ver) : Prop := -1099511627776 ≤ v.fr ∧ v.fr ≤ 1099511627776 ∧ -1099511627776 ≤ v.to ∧ v.to ≤ 1099511627776 ∧ -9223372036854775808 ≤ v.num ∧ v.num ≤ 1099511627776
def CalmL (l : List Ver) : Prop := ∀ (k : Nat) (v : Ver), l[k]? = some v → v.calm
def RetRv (k : IntKind) (v : Ver) (l : List Ver) (f : Int) (w : World) (e : Ending) (w' : World) : Prop := ∃ A n c A2 c2, e = .returned (.tuple #[v.val (.slice A n c), .slice A2 l.length c2, .int k f]) ∧ SlN w' A n c v.kr ∧ SlV w' A2 l.length c2 l ∧ Below w.heap.size w w'
def RetRot (l : List Ver) (v : Ver) (o : Int) (w : World) (e : Ending) (w' : World) : Prop :=
  ((o < 0 ∨ 4096 < o) ∧ RetRv .i64 ver0 [] 2 w e w') ∨ (¬ (o < 0 ∨ 4096 < o) ∧ lastI l v.name = none ∧ RetRv .i64 ver0 [] 22 w e w') ∨
  ∃ i u, ¬ (o < 0 ∨ 4096 < o) ∧ lastI l v.name = some i ∧ l[i]? = some u ∧
    (((v.fr ≤ u.fr ∨ u.to < v.fr - 1) ∧ RetRv .i64 ver0 [] 21 w e w') ∨ (¬ (v.fr ≤ u.fr ∨ u.to < v.fr - 1) ∧
      (((v.next u).msg.2 ≠ 0 ∧ RetRv .i64 ver0 [] (v.next u).msg.2 w e w') ∨ ((v.next u).msg.2 = 0 ∧ RetRv .i64 (v.next u) (rotL l i u (v.fr + o - 1)) 0 w e w'))))
theorem arr_next (v u : Ver) (A : Option Addr) (n c : Nat) : ((((v.arr (.slice A n c)).setIfInBounds 1 (.int .i64 (u.num + 1))).setIfInBounds 15 (.int .i64 4096)).setIfInBounds 16 (.string ⟨#[]⟩)).setIfInBounds 17 (.string ⟨#[]⟩) = (v.next u).arr (.slice A n c) := by
  unfold Ver.arr Ver.next
  simp only [List.setIfInBounds_toArray, List.set_cons_zero, List.set_cons_succ]
theorem ended_row {w w4 : World} {g n cap i base : Nat} {vs : List Value} {l : List Ver} {u : Ver} (e : Int) (hown : w.ownsRow base 35 18 (.slice (some ⟨g, 0, none⟩) n cap) n vs) (hr : VRowO w (some g) base vs l) (hi : l[i]? = some u) (hw4 : ∀ b, base ≤ b → w4.heap[b]? = (((w.setCell ⟨g, i * 18 + 15, none⟩ (.int .i64 e)).setCell ⟨g, i * 18 + 16, none⟩ (.string ⟨#[]⟩)).setCell ⟨g, i * 18 + 17, none⟩ (.string ⟨#[]⟩)).heap[b]?) :
    SlV w4 (some ⟨g, 0, none⟩) n cap (l.set i (u.ended e)) := by
  have hln := hr.len hown
  have hil := (List.getElem?_eq_some_iff.1 hi).1
  rcases hown.2 with ⟨h, _⟩ | ⟨g', cap', cur, hv, hb, hh, hc, hm, hs, ht⟩
  · cases h
  · cases hv
    have hh3 := block_setCell (block_setCell (block_setCell hh (j := i * 18 + 15) (.int .i64 e)) (j := i * 18 + 16) (.string ⟨#[]⟩)) (j := i * 18 + 17) (.string ⟨#[]⟩)
    obtain ⟨w3, hw3⟩ : ∃ w3, ((w.setCell ⟨g, i * 18 + 15, none⟩ (.int .i64 e)).setCell ⟨g, i * 18 + 16, none⟩ (.string ⟨#[]⟩)).setCell ⟨g, i * 18 + 17, none⟩ (.string ⟨#[]⟩) = w3 := ⟨_, rfl⟩
    have hoth : ∀ b, b ≠ g → w3.heap[b]? = w.heap[b]? := fun b hb => by
      rw [← hw3, heap_setCell_other _ _ _ _ hb, heap_setCell_other _ _ _ _ hb, heap_setCell_other _ _ _ _ hb]
    rw [hw3] at hh3 hw4
    have hh3 := (hw4 g hb).trans hh3
    refine ⟨by rw [List.length_set]; exact hln.symm, hc, by unfold maxLen at hm; exact hm, g, 0, fun _ => rfl, fun k v' hk => ?_⟩
    have hcell : ∀ j x, vs[j]? = some x → cur[j]? = some x := fun j x hj => by
      have hjl := (List.getElem?_eq_some_iff.1 hj).1
      have hvl := hown.1
      rw [← ht] at hj
      rw [List.getElem?_take_of_lt (by omega)] at hj
      simpa using hj
    have hget : ∀ k v, l[k]? = some v → ∃ A m c, SlO w (some g) base A m c v.kr ∧ ∀ j x, (v.vals (.slice A m c))[j]? = some x → cur[k * 18 + j]? = some x := fun k v h => by
      obtain ⟨A, m, c, h1, h2⟩ := hr.get h
      exact ⟨A, m, c, h1, fun j x hx => hcell _ _ (h2 j x hx)⟩
    have hsl : ∀ A m c l', SlO w (some g) base A m c l' → SlN w4 A m c l' := fun A m c l' h => h.1.of_blocks fun h0 a ha => (hw4 _ (h.2 h0 a ha).2).trans (hoth _ (fun e => by have := (h.2 h0 a ha).1; rw [e] at this; exact this rfl))
    have hsz : cur.size = cap * 18 := hs
    by_cases hki : k = i
    · subst hki
      rw [List.getElem?_set_self hil] at hk
      cases hk
      obtain ⟨A, m, c, h1, h2⟩ := hget k u hi
      refine ⟨A, m, c, fun j x hx => ?_, hsl _ _ _ _ h1⟩
      have hj : j < 18 := (List.getElem?_eq_some_iff.1 hx).1
      rw [Nat.zero_add, Lib.cell_of_heap hh3]
      have hb17 : k * 18 + 17 < cur.size := by rw [hsz]; omega
      by_cases h17 : j = 17
      · subst h17
        cases hx
        rw [Array.getElem?_setIfInBounds_self_of_lt (by simp; exact hb17)]
        rfl
      · rw [Array.getElem?_setIfInBounds_ne (by omega)]
        by_cases h16 : j = 16
        · subst h16
          cases hx
          rw [Array.getElem?_setIfInBounds_self_of_lt (by simp; omega)]
          rfl
        · rw [Array.getElem?_setIfInBounds_ne (by omega)]
          by_cases h15 : j = 15
          · subst h15
            cases hx
            rw [Array.getElem?_setIfInBounds_self_of_lt (by omega)]
            rfl
          · rw [Array.getElem?_setIfInBounds_ne (by omega)]
            refine h2 j x ?_
            rcases (show j = 0 ∨ j = 1 ∨ j = 2 ∨ j = 3 ∨ j = 4 ∨ j = 5 ∨ j = 6 ∨ j = 7 ∨ j = 8 ∨ j = 9 ∨ j = 10 ∨ j = 11 ∨ j = 12 ∨ j = 13 ∨ j = 14 from by omega) with rfl | rfl | rfl | rfl | rfl | rfl | rfl | rfl | rfl | rfl | rfl | rfl | rfl | rfl | rfl <;> exact hx
    · rw [List.getElem?_set_ne (by omega)] at hk
      obtain ⟨A, m, c, h1, h2⟩ := hget k v' hk
      refine ⟨A, m, c, fun j x hx => ?_, hsl _ _ _ _ h1⟩
      have hj : j < 18 := (List.getElem?_eq_some_iff.1 hx).1
      rw [Nat.zero_add, Lib.cell_of_heap hh3, Array.getElem?_setIfInBounds_ne (by omega), Array.getElem?_setIfInBounds_ne (by omega), Array.getElem?_setIfInBounds_ne (by omega)]
      exact h2 j x hx
theorem plain_row {w w4 : World} {g n cap base : Nat} {vs : List Value} {l : List Ver} (hown : w.ownsRow base 35 18 (.slice (some ⟨g, 0, none⟩) n cap) n vs) (hr : VRowO w (some g) base vs l) (hw4 : ∀ b, base ≤ b → w4.heap[b]? = w.heap[b]?) : SlV w4 (some ⟨g, 0, none⟩) n cap l := by
  have hln := hr.len hown
  have hcl := hown.cells (g := g) rfl
  rcases hown.2 with ⟨h, _⟩ | ⟨g', cap', cur, hv, hb, hh, hc, hm, hs, ht⟩
  · cases h
  · cases hv
    refine ⟨hln.symm, hc, by unfold maxLen at hm; exact hm, g, 0, fun _ => rfl, fun k v hk => ?_⟩
    obtain ⟨A, m, c, h1, h2⟩ := hr.get hk
    refine ⟨A, m, c, fun j x hx => ?_, h1.1.of_blocks fun h0 a ha => hw4 _ (h1.2 h0 a ha).2⟩
    have := hcl _ x (h2 j x hx)
    rw [addr_add] at this
    rw [World.cell?_of_block (w := w) (hw4 g hb), show 0 + k * 18 + j = 0 + (k * 18 + j) from by omega]
    exact this
theorem SlO.set {w : World} {g k lo : Nat} {A : Option Addr} {n c : Nat} {l : List ByteArray} (h : SlO w (some g) lo A n c l) (u : Value) : SlO (w.setCell ⟨g, k, none⟩ u) (some g) lo A n c l :=
  ⟨h.1.of_blocks fun hn a e => heap_setCell_other _ _ _ _ (fun e' => (h.2 hn a e).1 (by rw [e'])), h.2⟩
theorem next_sz {v u : Ver} (h : SzL v.str) : SzL (v.next u).str := fun s hs => by
  have : s = ⟨#[]⟩ ∨ s ∈ v.str := by
    simp only [Ver.str, Ver.keyStr, Ver.next, List.mem_append, List.mem_cons, List.mem_nil_iff, or_false] at hs ⊢
    rcases hs with (h | h | h | h | h | h | h) | (h | h | h | h | h | h | h) | h <;> simp [h]
  rcases this with rfl | h1
  · decide
  · exact h s h1
theorem results_row_tmp2 {P : Program} {fn : Func} {p q r : Tmp} {ty : TypeId} (h : fn.results = #[.cell p ty, .tmp q, .tmp r]) (tmps : Array Value) (w : World) (g : Nat) (t : TypeId) (cs : Array Value) (fr : Nat × Nat) (d : TypeDesc)
    (hp : tmps.getD p undef = .pointer (some ⟨g, 0, none⟩)) (hg : w.heap[g]? = some (.cells cs t fr))
    (hu : P.underlying ty = some d) (hd : (match d with | .struct _ | .array _ _ => true | _ => false) = true) (hi : (P.info? ty).map (·.size) = some cs.size) :
    (results fn tmps).run P w = .ok (.tuple #[.agg cs, tmps.getD q undef, tmps.getD r undef]) w := by
  have hp' : tmps[p]?.getD undef = .pointer (some ⟨g, 0, none⟩) := by simpa using hp
  simp [results, h, hp', asAddr, run_loadVar_row w g t ty cs fr d hg hu hd hi]
set_option maxRecDepth 100000 in
set_option maxHeartbeats 4000000 in
theorem ky_Rotate (l : List Ver) (A : Option Addr) (len cap : Nat) (v : Ver) (A1 : Option Addr) (n1 c1 : Nat) (o : Int) (w : World) (hs : SlV w A len cap l) (hlen : len ≤ 4096) (hz : SzV l) (hfw : FwV l) (hv : SlN w A1 n1 c1 v.kr) (hn1 : n1 ≤ 100) (hvz : SzL v.str) (hnm : v.name.size ≤ maxLen) (hcl : CalmL l) (hcv : v.calm) :
    Calls Tryz.prog 14 #[.slice A len cap, .agg (v.arr (.slice A1 n1 c1)), .int .i64 o] w (RetRot l v o w) := by
  obtain ⟨cs, hcs⟩ : ∃ cs, v.arr (.slice A1 n1 c1) = cs := ⟨_, rfl⟩
  rw [hcs]
  have HVA := Lib.hid hcs
  have HCS := Lib.hid (show cs.size = 18 from by rw [← hcs]; rfl)
  obtain ⟨W0, hW0⟩ : ∃ W0, (w.alloc (.cells cs 35)).alloc (.cells (ver0.arr (.slice none 0 0)) 35) = W0 := ⟨_, rfl⟩
  have HX0 := Lib.hid (show BxC W0 w.heap.size cs 35 from by rw [← hW0]; exact (BxC.new w _ _).alloc _)
  have HY0 := Lib.hid (show BxC W0 (w.heap.size + 1) (ver0.arr (.slice none 0 0)) 35 from by rw [← hW0]; exact BxC.new1 w _ _ _)
  have HB0 := Lib.hid (show Below w.heap.size w W0 from by rw [← hW0]; exact ((Below.refl _ _).alloc (Nat.le_refl _) _).alloc (by simp) _)
  have HSW := Lib.hid hs
  have HSL := Lib.hid hv
  have HZ := Lib.hid hz
  have HFW := Lib.hid hfw
  have HNM := Lib.hid hnm
  have HCL := Lib.hid hcl
  have HCV := Lib.hid hcv
  have HVZ := Lib.hid hvz
  have HLEN := Lib.hid hs.1
  have hcap := hs.2.1
  have hcap2 := hs.2.2.1
  unfold ver0 Ver.arr at hW0
  clear hs hz hfw hnm hcl hcv hvz hcs hv
  by_cases ho : o < 0 ∨ 4096 < o
  · have HO := Lib.hid ho
    go_enter Tryz.func14, Tryz.ntmps14
    by_cases h1 : o < 0
    · go_upto_region 2 with fail
      try rw [hW0]
      clear hW0
      refine wp_region_lit ?_
      iterate 4 go_step
      refine wp_store_row 35 _ _ rfl (w.heap.size + 1) (ver0.arr (.slice none 0 0)) rfl rfl 35 (ver0.arr (.slice none 0 0)) HY0.out (by kernel_rfl) rfl ver0.arr_one ?_
      have HYe := Lib.hid (setRow_heap W0 (w.heap.size + 1) _ (ver0.arr (.slice none 0 0)) _ _ HY0.out)
      have HBe := Lib.hid (below_setRow HB0.out (g := w.heap.size + 1) (by omega) (ver0.arr (.slice none 0 0)))
      obtain ⟨we, hwe⟩ : ∃ we, World.setRow W0 (w.heap.size + 1) (ver0.arr (.slice none 0 0)) = we := ⟨_, rfl⟩
      rw [hwe] at HYe HBe ⊢
      clear hwe
      go_wp2
      refine bodyPost_ret (v := .tuple #[.agg (ver0.arr (.slice none 0 0)), .slice none 0 0, .int .i64 2]) (Eq.trans (results_row_tmp2 rfl _ _ (w.heap.size + 1) 35 (ver0.arr (.slice none 0 0)) (0, 0) _ rfl HYe.out Tryz.underlying35 rfl (by kernel_rfl)) (by rfl)) rfl ?_
      have HRR := Lib.hid (show RetRv .i64 ver0 [] 2 w (.returned (.tuple #[.agg (ver0.arr (.slice none 0 0)), .slice none 0 0, .int .i64 2])) we from ⟨none, 0, 0, none, 0, rfl, ⟨rfl, Nat.le_refl _, Nat.zero_le _, 0, 0, fun h => absurd h (Nat.lt_irrefl _), fun k s h => by simp [ver0] at h⟩, SlV.nil _ 0 (by omega) none, HBe.out⟩)
      exact .inl ⟨HO.out, HRR.out⟩
    · have h2 : 4096 < o := by omega
      go_upto_region 2 with fail
      try rw [hW0]
      clear hW0
      refine wp_region_lit ?_
      iterate 4 go_step
      refine wp_store_row 35 _ _ rfl (w.heap.size + 1) (ver0.arr (.slice none 0 0)) rfl rfl 35 (ver0.arr (.slice none 0 0)) HY0.out (by kernel_rfl) rfl ver0.arr_one ?_
      have HYe := Lib.hid (setRow_heap W0 (w.heap.size + 1) _ (ver0.arr (.slice none 0 0)) _ _ HY0.out)
      have HBe := Lib.hid (below_setRow HB0.out (g := w.heap.size + 1) (by omega) (ver0.arr (.slice none 0 0)))
      obtain ⟨we, hwe⟩ : ∃ we, World.setRow W0 (w.heap.size + 1) (ver0.arr (.slice none 0 0)) = we := ⟨_, rfl⟩
      rw [hwe] at HYe HBe ⊢
      clear hwe
      go_wp2
      refine bodyPost_ret (v := .tuple #[.agg (ver0.arr (.slice none 0 0)), .slice none 0 0, .int .i64 2]) (Eq.trans (results_row_tmp2 rfl _ _ (w.heap.size + 1) 35 (ver0.arr (.slice none 0 0)) (0, 0) _ rfl HYe.out Tryz.underlying35 rfl (by kernel_rfl)) (by rfl)) rfl ?_
      have HRR := Lib.hid (show RetRv .i64 ver0 [] 2 w (.returned (.tuple #[.agg (ver0.arr (.slice none 0 0)), .slice none 0 0, .int .i64 2])) we from ⟨none, 0, 0, none, 0, rfl, ⟨rfl, Nat.le_refl _, Nat.zero_le _, 0, 0, fun h => absurd h (Nat.lt_irrefl _), fun k s h => by simp [ver0] at h⟩, SlV.nil _ 0 (by omega) none, HBe.out⟩)
      exact .inl ⟨HO.out, HRR.out⟩
  · have HO := Lib.hid ho
    have ho1 : ¬ o < 0 := fun h => ho (.inl h)
    have ho2 : ¬ 4096 < o := fun h => ho (.inr h)
    clear ho
    have x0 : W0.drew.cell? ⟨w.heap.size, 0, none⟩ = some (.string v.name) := (HX0.out.cell 0).trans (by rw [← HVA.out]; rfl)
    go_enter Tryz.func14, Tryz.ntmps14
    go_wp2
    try rw [hW0]
    clear hW0
    refine wp_region_K 10 (Below (W0.drew).heap.size (W0.drew)) (by kernel_rfl) ?_
    intro hD
    refine wpAnyK_pure (i := 0) (v := ?v3_0b1) (fuel := 9) rfl (by kernel_rfl) (fun _ _ _ h => h) hD (Below.refl _ _) (.inl ⟨by kernel_rfl, ?y3_0b1⟩) ?n3_0b1
    case y3_0b1 => intro w' _; go_simp; with_reducible rfl
    clear hD; intro hD
    simp only [Act.put, sqA, sqB, sqC]
    refine wpAnyK_pure (i := 2) (v := ?v3_2b1) (fuel := 8) rfl (by kernel_rfl) (fun _ _ _ h => h) hD (Below.refl _ _) (.inl ⟨by kernel_rfl, ?y3_2b1⟩) ?n3_2b1
    case y3_2b1 => intro w' _; go_simp; with_reducible rfl
    clear hD; intro hD
    simp only [Act.put, sqA, sqB, sqC]
    refine wpAnyK_takeS (i := 3) (v := ?v3_3b1) (fuel := 7) rfl (by kernel_rfl) (by kernel_rfl) (fun _ _ _ h => h) hD (Below.refl _ _) (.inl ⟨by kernel_rfl, ?y3_3b1⟩) ?n3_3b1
    case y3_3b1 => intro w' hS'; have e0 := cell_kept hS' (Nat.le_refl _) x0; go_simp; with_reducible rfl
    clear hD; intro hD
    simp only [Act.put, sqA, sqB, sqC]
    refine wpAnyK_one (i := 1) (fuel := 6) (by kernel_rfl) rfl hD ?_
    clear hD; intro K1 hK1
    go_wp2_with fail
    refine (ky_last l A len cap _ ((HSW.out.kept HB0.out (Nat.le_refl _)).kept (Below.refl _ _).drew (Nat.le_refl _)) hlen HZ.out).mono ?_
    rintro e w1 ⟨mb, rfl, hmb, ⟨D, hD, hF⟩, hb1⟩
    have HB1 := Lib.hid hb1
    have HOWN1 := Lib.hid hD
    have HF := Lib.hid hF
    clear hb1 hD hF
    go_wp2
    refine hK1 _ _ (by exact HB1.out) ?_; clear hK1; intro hS_3_1 hD
    refine wpAnyK_one (i := 4) (fuel := 5) (by kernel_rfl) rfl hD ?_
    clear hD; intro K4 hK4
    refine wpList_lookup_own_ok_int _ rfl _ _ 72 rfl 9 3 .i64 lawS Tryz.underlying72 Tryz.underlying3 (zeroI _) mb l.length D rfl HOWN1.out (.string v.name) (.string v.name.data.toList) rfl (keyS HNM.out) ?_
    intro c hat hwc
    go_wp2
    refine hK4 _ _ (by exact hS_3_1) ?_; clear hK4; intro hS_3_4 hD
    refine wpAnyK_pure (i := 5) (v := ?v3_5b1) (fuel := 4) rfl (by kernel_rfl) (fun _ _ _ h => h) hD hS_3_4 (.inl ⟨by kernel_rfl, ?y3_5b1⟩) ?n3_5b1
    case y3_5b1 => intro w' _; go_simp; with_reducible rfl
    clear hD; intro hD
    simp only [Act.put, sqA, sqB, sqC]
    refine wpAnyK_pure (i := 6) (v := ?v3_6b1) (fuel := 3) rfl (by kernel_rfl) (fun _ _ _ h => h) hD hS_3_4 (.inl ⟨by kernel_rfl, ?y3_6b1⟩) ?n3_6b1
    case y3_6b1 => intro w' _; go_simp; with_reducible rfl
    clear hD; intro hD
    simp only [Act.put, sqA, sqB, sqC]
    refine wpAnyK_pure (i := 7) (v := ?v3_7b1) (fuel := 2) rfl (by kernel_rfl) (fun _ _ _ h => h) hD hS_3_4 (.inl ⟨by kernel_rfl, ?y3_7b1⟩) ?n3_7b1
    case y3_7b1 => intro w' _; go_simp; with_reducible rfl
    clear hD; intro hD
    simp only [Act.put, sqA, sqB, sqC]
    refine wpAnyK_one (i := 8) (fuel := 1) (by kernel_rfl) rfl hD ?_
    clear hD; intro K8 hK8
    go_wp2
    refine hK8 _ _ (by exact hS_3_4) ?_; clear hK8; intro hS_3_8 hD
    refine wpAnyK_one (i := 9) (fuel := 0) (by kernel_rfl) rfl hD ?_
    clear hD; intro K9 hK9
    go_wp2
    refine hK9 _ _ (by exact hS_3_8) ?_; clear hK9; intro hS_3_9 hD
    have HL1 := Lib.hid hS_3_8
    refine wpAnyK_done (by kernel_rfl) ?_ 0
    clear hD
    have hb01 : Below W0.heap.size W0 w1 := ((Below.refl _ _).drew).trans HL1.out
    have HX1 := Lib.hid (HX0.out.next hb01)
    have HY1 := Lib.hid (HY0.out.next hb01)
    have HB1 := Lib.hid (HB0.out.trans (hb01.mono HB0.out.size))
    have HB1d := Lib.hid HB1.out.drew
    clear hb01
    cases hi : lastI l v.name with
    | none =>
      rw [show Maps.has D (.string v.name.data.toList) = false from by rw [(HF.out v.name).1, hi]; rfl]
      have HI := Lib.hid hi
      clear hi hat hwc
      go_upto_region 5 with fail
      refine wp_region_lit ?_
      iterate 4 go_step
      refine wp_store_row 35 _ _ rfl (w.heap.size + 1) (ver0.arr (.slice none 0 0)) rfl rfl 35 (ver0.arr (.slice none 0 0)) HY1.out (by kernel_rfl) rfl ver0.arr_one ?_
      have HYe := Lib.hid (setRow_heap w1 (w.heap.size + 1) _ (ver0.arr (.slice none 0 0)) _ _ HY1.out)
      have HBe := Lib.hid (below_setRow HB1.out (g := w.heap.size + 1) (by omega) (ver0.arr (.slice none 0 0)))
      obtain ⟨we, hwe⟩ : ∃ we, World.setRow w1 (w.heap.size + 1) (ver0.arr (.slice none 0 0)) = we := ⟨_, rfl⟩
      rw [hwe] at HYe HBe ⊢
      clear hwe
      go_wp2
      refine bodyPost_ret (v := .tuple #[.agg (ver0.arr (.slice none 0 0)), .slice none 0 0, .int .i64 22]) (Eq.trans (results_row_tmp2 rfl _ _ (w.heap.size + 1) 35 (ver0.arr (.slice none 0 0)) (0, 0) _ rfl HYe.out Tryz.underlying35 rfl (by kernel_rfl)) (by rfl)) rfl ?_
      have HRR := Lib.hid (show RetRv .i64 ver0 [] 22 w (.returned (.tuple #[.agg (ver0.arr (.slice none 0 0)), .slice none 0 0, .int .i64 22])) we from ⟨none, 0, 0, none, 0, rfl, ⟨rfl, Nat.le_refl _, Nat.zero_le _, 0, 0, fun h => absurd h (Nat.lt_irrefl _), fun k s h => by simp [ver0] at h⟩, SlV.nil _ 0 (by omega) none, HBe.out⟩)
      exact .inr (.inl ⟨HO.out, HI.out, HRR.out⟩)
    | some i =>
      obtain ⟨hil, u, hu, _⟩ := bestI_lt hi
      obtain rfl : c = (i : Int) := by
        rw [(HF.out v.name).2 i hi] at hat
        injection hat with h1
        injection h1 with _ h2
        exact h2.symm
      rw [show Maps.has D (.string v.name.data.toList) = true from by rw [(HF.out v.name).1, hi]; rfl]
      have HI := Lib.hid hi
      have HU := Lib.hid hu
      have hll : i < len := by rw [← HLEN.out]; exact hil
      obtain ⟨b, p, rfl⟩ := HSW.out.head (by omega)
      obtain ⟨A2, n2, c2, hvc, _⟩ := (HSW.out.kept HB1.out (Nat.le_refl _)).get? i hu
      have y14 : w1.drew.cell? ⟨b, p + i * 18 + 14, none⟩ = some (.int .i64 u.fr) := hvc.open.2.2.2.2.2.2.2.2.2.2.2.2.2.2.1
      have y15 : w1.drew.cell? ⟨b, p + i * 18 + 15, none⟩ = some (.int .i64 u.to) := hvc.open.2.2.2.2.2.2.2.2.2.2.2.2.2.2.2.1
      have x14 : w1.drew.cell? ⟨w.heap.size, 14, none⟩ = some (.int .i64 v.fr) := (HX1.out.cell 14).trans (by rw [← HVA.out]; rfl)
      obtain ⟨v1, v2, v3, v4, v5, v6⟩ := HCV.out
      clear hi hu hvc hat hwc hil
      by_cases g1 : v.fr ≤ u.fr
      · have HG := Lib.hid (show v.fr ≤ u.fr ∨ u.to < v.fr - 1 from .inl g1)
        have g1' : decide (v.fr ≤ u.fr) = true := decide_eq_true g1
        clear g1
        go_wp2
        go_region
        go_upto_region 7 with fail
        refine wp_region_lit ?_
        iterate 4 go_step
        refine wp_store_row 35 _ _ rfl (w.heap.size + 1) (ver0.arr (.slice none 0 0)) rfl rfl 35 (ver0.arr (.slice none 0 0)) HY1.out (by kernel_rfl) rfl ver0.arr_one ?_
        have HYe := Lib.hid (setRow_heap w1.drew (w.heap.size + 1) _ (ver0.arr (.slice none 0 0)) _ _ HY1.out)
        have HBe := Lib.hid (below_setRow HB1d.out (g := w.heap.size + 1) (by omega) (ver0.arr (.slice none 0 0)))
        obtain ⟨we, hwe⟩ : ∃ we, World.setRow w1.drew (w.heap.size + 1) (ver0.arr (.slice none 0 0)) = we := ⟨_, rfl⟩
        rw [hwe] at HYe HBe ⊢
        clear hwe
        go_wp2
        refine bodyPost_ret (v := .tuple #[.agg (ver0.arr (.slice none 0 0)), .slice none 0 0, .int .i64 21]) (Eq.trans (results_row_tmp2 rfl _ _ (w.heap.size + 1) 35 (ver0.arr (.slice none 0 0)) (0, 0) _ rfl HYe.out Tryz.underlying35 rfl (by kernel_rfl)) (by rfl)) rfl ?_
        have HRR := Lib.hid (show RetRv .i64 ver0 [] 21 w (.returned (.tuple #[.agg (ver0.arr (.slice none 0 0)), .slice none 0 0, .int .i64 21])) we from ⟨none, 0, 0, none, 0, rfl, ⟨rfl, Nat.le_refl _, Nat.zero_le _, 0, 0, fun h => absurd h (Nat.lt_irrefl _), fun k s h => by simp [ver0] at h⟩, SlV.nil _ 0 (by omega) none, HBe.out⟩)
        exact .inr (.inr ⟨i, u, HO.out, HI.out, HU.out, .inl ⟨HG.out, HRR.out⟩⟩)
      · by_cases g2 : u.to < v.fr - 1
        · have HG := Lib.hid (show v.fr ≤ u.fr ∨ u.to < v.fr - 1 from .inr g2)
          have g1' : decide (v.fr ≤ u.fr) = false := decide_eq_false g1
          have g2' : decide (u.to < v.fr - 1) = true := decide_eq_true g2
          clear g1 g2
          go_wp2
          go_region
          go_upto_region 7 with fail
          refine wp_region_lit ?_
          iterate 4 go_step
          refine wp_store_row 35 _ _ rfl (w.heap.size + 1) (ver0.arr (.slice none 0 0)) rfl rfl 35 (ver0.arr (.slice none 0 0)) HY1.out (by kernel_rfl) rfl ver0.arr_one ?_
          have HYe := Lib.hid (setRow_heap w1.drew (w.heap.size + 1) _ (ver0.arr (.slice none 0 0)) _ _ HY1.out)
          have HBe := Lib.hid (below_setRow HB1d.out (g := w.heap.size + 1) (by omega) (ver0.arr (.slice none 0 0)))
          obtain ⟨we, hwe⟩ : ∃ we, World.setRow w1.drew (w.heap.size + 1) (ver0.arr (.slice none 0 0)) = we := ⟨_, rfl⟩
          rw [hwe] at HYe HBe ⊢
          clear hwe
          go_wp2
          refine bodyPost_ret (v := .tuple #[.agg (ver0.arr (.slice none 0 0)), .slice none 0 0, .int .i64 21]) (Eq.trans (results_row_tmp2 rfl _ _ (w.heap.size + 1) 35 (ver0.arr (.slice none 0 0)) (0, 0) _ rfl HYe.out Tryz.underlying35 rfl (by kernel_rfl)) (by rfl)) rfl ?_
          have HRR := Lib.hid (show RetRv .i64 ver0 [] 21 w (.returned (.tuple #[.agg (ver0.arr (.slice none 0 0)), .slice none 0 0, .int .i64 21])) we from ⟨none, 0, 0, none, 0, rfl, ⟨rfl, Nat.le_refl _, Nat.zero_le _, 0, 0, fun h => absurd h (Nat.lt_irrefl _), fun k s h => by simp [ver0] at h⟩, SlV.nil _ 0 (by omega) none, HBe.out⟩)
          exact .inr (.inr ⟨i, u, HO.out, HI.out, HU.out, .inl ⟨HG.out, HRR.out⟩⟩)
        · have HG := Lib.hid (show ¬ (v.fr ≤ u.fr ∨ u.to < v.fr - 1) from fun h => h.elim g1 g2)
          have g1' : decide (v.fr ≤ u.fr) = false := decide_eq_false g1
          have g2' : decide (u.to < v.fr - 1) = false := decide_eq_false g2
          clear g1 g2
          go_wp2
          go_region
          have HBD := Lib.hid HB1d.out
          have hsl8 := HSL.out.kept HBD.out (Nat.le_refl _)
          have HCO := Lib.hid (show Calls Tryz.prog 29 #[.agg cs] w1.drew (RetVV v w1.drew) from by rw [← HVA.out]; exact ky_copied v A1 n1 c1 w1.drew hsl8 (by omega))
          have HX8 := Lib.hid (show BxC w1.drew w.heap.size cs 35 from HX1.out)
          have HY8 := Lib.hid (show BxC w1.drew (w.heap.size + 1) (ver0.arr (.slice none 0 0)) 35 from HY1.out)
          have hnn1 := HSL.out.1
          clear x14 y14 y15 hsl8 HX1 HY1
          go_upto_region 8 with fail
          refine wp_region_lit ?_
          refine wpList_load_row rfl 35 _ rfl w.heap.size rfl 35 cs (0, 0) _ HX8.out Tryz.underlying35 rfl (by rw [HCS.out]; kernel_rfl) ?_
          go_wp2_with fail
          refine HCO.out.mono ?_
          rintro ev w3 ⟨A3, n3, c3, rfl, ⟨B3, hB3, hown⟩, hb3⟩
          have HX3 := Lib.hid (HX8.out.next hb3)
          have HY3 := Lib.hid (HY8.out.next hb3)
          have HB3 := Lib.hid (HBD.out.trans (hb3.mono HBD.out.size))
          have hlt8 : w.heap.size < w1.drew.heap.size := HX8.out.lt
          obtain ⟨hl4, A4, c4, e4, hs4⟩ := SlN.of_owns (ownsRow_below_row hown (g := w.heap.size) (by omega) (v.arr (.slice A3 n3 c3)))
          cases e4
          have HX4 := Lib.hid (show BxC _ w.heap.size (v.arr (.slice A3 n3 c3)) 35 from setRow_heap w3 w.heap.size _ (v.arr (.slice A3 n3 c3)) _ _ HX3.out)
          have HY4 := Lib.hid (HY3.out.row (C := w.heap.size) (ds := v.arr (.slice A3 n3 c3)) (by omega))
          have HB4 := Lib.hid (below_setRow HB3.out (Nat.le_refl _) (v.arr (.slice A3 n3 c3)))
          have HS4 := Lib.hid hs4
          have hn34 : n3 ≤ 100 := by rw [← hs4.1, hnn1]; exact hn1
          have HSO4 := Lib.hid (show SlO _ (some w.heap.size) (w.heap.size + 1 + 1) A3 n3 c3 v.kr from ⟨hs4, fun hn a e => by
            have h2 := (hown.lt a.block (by rw [e]; rfl)).1
            have h3 := HY8.out.lt
            exact ⟨fun h => by simp only [Option.some.injEq] at h; omega, by omega⟩⟩)
          clear hb3 hown hB3 hs4 hl4 hlt8
          rw [show v.val (.slice A3 n3 c3) = .agg (v.arr (.slice A3 n3 c3)) from rfl]
          dsimp only
          iterate 2 go_step
          refine wp_store_row 35 _ _ rfl (w.heap.size) (v.arr (.slice A3 n3 c3)) rfl rfl 35 cs HX3.out (by kernel_rfl) (by rw [HCS.out]; rfl) v.arr_one ?_
          obtain ⟨w4, hw4⟩ : ∃ w4, w3.setRow (w.heap.size) (v.arr (.slice A3 n3 c3)) = w4 := ⟨_, rfl⟩
          rw [hw4] at HX4 HY4 HB4 HS4 HSO4 ⊢
          clear hw4
          obtain ⟨A5, n5, c5, hvc5, _⟩ := (HSW.out.kept HB4.out (Nat.le_refl _)).get? i HU.out
          have y1 : w4.cell? ⟨b, p + i * 18 + 1, none⟩ = some (.int .i64 u.num) := hvc5.open.2.1
          obtain ⟨_, _, _, _, u5, u6⟩ := HCL.out i u HU.out
          have f1 := HX4.out.free 1
          have f15 := HX4.out.free 15
          have f16 := HX4.out.free 16
          have f17 := HX4.out.free 17
          have z1 : w4.cell? ⟨w.heap.size, 1, none⟩ = some (.int .i64 v.num) := HX4.out.cell 1
          have z15 : w4.cell? ⟨w.heap.size, 15, none⟩ = some (.int .i64 v.to) := HX4.out.cell 15
          have z16 : w4.cell? ⟨w.heap.size, 16, none⟩ = some (.string v.sc) := HX4.out.cell 16
          have z17 : w4.cell? ⟨w.heap.size, 17, none⟩ = some (.string v.sr) := HX4.out.cell 17
          have HX5 := Lib.hid ((((HX4.out.set (k := 1) (.int .i64 (u.num + 1))).set (k := 15) (.int .i64 4096)).set (k := 16) (.string ⟨#[]⟩)).set (k := 17) (.string ⟨#[]⟩))
          rw [arr_next] at HX5
          have HY5 := Lib.hid ((((HY4.out.other (C := w.heap.size) (k := 1) (by omega) (.int .i64 (u.num + 1))).other (C := w.heap.size) (k := 15) (by omega) (.int .i64 4096)).other (C := w.heap.size) (k := 16) (by omega) (.string ⟨#[]⟩)).other (C := w.heap.size) (k := 17) (by omega) (.string ⟨#[]⟩))
          have HB5 := Lib.hid ((((HB4.out.setCell (p := ⟨w.heap.size, 1, none⟩) (Nat.le_refl _) (.int .i64 (u.num + 1))).setCell (p := ⟨w.heap.size, 15, none⟩) (Nat.le_refl _) (.int .i64 4096)).setCell (p := ⟨w.heap.size, 16, none⟩) (Nat.le_refl _) (.string ⟨#[]⟩)).setCell (p := ⟨w.heap.size, 17, none⟩) (Nat.le_refl _) (.string ⟨#[]⟩))
          clear hvc5
          go_upto_region 10 with fail
          obtain ⟨w5, hw5⟩ : ∃ w5, (((w4.setCell ⟨w.heap.size, 1, none⟩ (.int .i64 (u.num + 1))).setCell ⟨w.heap.size, 15, none⟩ (.int .i64 4096)).setCell ⟨w.heap.size, 16, none⟩ (.string ⟨#[]⟩)).setCell ⟨w.heap.size, 17, none⟩ (.string ⟨#[]⟩) = w5 := ⟨_, rfl⟩
          have HSO5 := Lib.hid ((((HSO4.out.set (k := 1) (.int .i64 (u.num + 1))).set (k := 15) (.int .i64 4096)).set (k := 16) (.string ⟨#[]⟩)).set (k := 17) (.string ⟨#[]⟩))
          rw [hw5] at HX5 HY5 HB5 HSO5 ⊢
          clear hw5 y1 f1 f15 f16 f17 z1 z15 z16 z17
          have HME := Lib.hid (ky_Message (v.next u) A3 n3 c3 w5 HSO5.out.1 hn34 (next_sz HVZ.out))
          obtain ⟨rr, hrr⟩ : ∃ rr, (v.next u).arr (.slice A3 n3 c3) = rr := ⟨_, rfl⟩
          have hrs : rr.size = 18 := by rw [← hrr]; rfl
          have hro : rr.all (·.oneCell') = true := by rw [← hrr]; exact (v.next u).arr_one
          have h14 : rr[14]? = some (.int .i64 v.fr) := by rw [← hrr]; rfl
          rw [hrr] at HX5 HME
          have HRV := Lib.hid hrr
          have HRS := Lib.hid hrs
          have HRO := Lib.hid hro
          have H14 := Lib.hid h14
          clear hrr hrs hro h14
          refine wp_region_lit ?_
          refine wpList_load_row rfl 35 _ rfl w.heap.size rfl 35 rr (0, 0) _ HX5.out Tryz.underlying35 rfl (by rw [HRS.out]; kernel_rfl) ?_
          go_wp2_with fail
          refine HME.out.mono ?_
          rintro ev w6 ⟨rfl, hb6⟩
          have HX6 := Lib.hid (HX5.out.next hb6)
          have HY6 := Lib.hid (HY5.out.next hb6)
          have HB6 := Lib.hid (HB5.out.trans (hb6.mono HB5.out.size))
          have HSO6 := Lib.hid (HSO5.out.kept hb6 (Nat.le_refl _))
          clear hb6
          obtain ⟨r1, r2, hr⟩ : ∃ r1 r2, (v.next u).msg = (r1, r2) := ⟨_, _, rfl⟩
          rw [hr]
          have HR := Lib.hid hr
          clear hr
          by_cases h0 : r2 = 0
          · have HR0 := Lib.hid (show (v.next u).msg.2 = 0 from by rw [HR.out]; exact h0)
            rw [h0]
            clear h0
            go_wp2_with fail
            refine (ky_all l _ len cap w6 (HSW.out.kept HB6.out (Nat.le_refl _)) hlen HFW.out).mono ?_
            rintro ev w7 ⟨rv, vs, rfl, hown, hvr, hb7⟩
            obtain ⟨g, cap7, rfl, hg6, hgh, hg7⟩ : ∃ g cap7, rv = .slice (some ⟨g, 0, none⟩) l.length cap7 ∧ w6.heap.size ≤ g ∧ (∃ cur, w7.heap[g]? = some (.cells cur 35 (0, 0))) ∧ g < w7.heap.size := by
              have hlt := hown.lt
              rcases hown.2 with ⟨_, h0⟩ | ⟨g, cap, cur, hv, hb, hh, _⟩
              · rw [HLEN.out] at h0; omega
              · exact ⟨g, cap, hv, hb, ⟨cur, hh⟩, block_lt hh⟩
            obtain ⟨cur, hcur⟩ := hgh
            have hvr' : VRowO w7 (some g) w6.heap.size vs l := hvr
            obtain ⟨A8, n8, c8, _, hvs⟩ := hvr'.get HU.out
            have y15 : w7.cell? ⟨g, i * 18 + 15, none⟩ = some (.int .i64 u.to) := by
              have := hown.cells (g := g) rfl (i * 18 + 15) _ (hvs 15 _ rfl)
              rw [addr_add, Nat.zero_add] at this
              exact this
            have y16 : w7.cell? ⟨g, i * 18 + 16, none⟩ = some (.string u.sc) := by
              have := hown.cells (g := g) rfl (i * 18 + 16) _ (hvs 16 _ rfl)
              rw [addr_add, Nat.zero_add] at this
              exact this
            have y17 : w7.cell? ⟨g, i * 18 + 17, none⟩ = some (.string u.sr) := by
              have := hown.cells (g := g) rfl (i * 18 + 17) _ (hvs 17 _ rfl)
              rw [addr_add, Nat.zero_add] at this
              exact this
            have f15 : w7.frozen? ⟨g, i * 18 + 15, none⟩ = false := Lib.frozen_of_heap hcur _
            have f16 : w7.frozen? ⟨g, i * 18 + 16, none⟩ = false := Lib.frozen_of_heap hcur _
            have f17 : w7.frozen? ⟨g, i * 18 + 17, none⟩ = false := Lib.frozen_of_heap hcur _
            have HX7 := Lib.hid (HX6.out.next hb7)
            have HY7 := Lib.hid (HY6.out.next hb7)
            have HB7 := Lib.hid (HB6.out.trans (hb7.mono HB6.out.size))
            have HSO7 := Lib.hid (HSO6.out.kept hb7 (Nat.le_refl _))
            have x14 : w7.cell? ⟨w.heap.size, 14, none⟩ = some (.int .i64 v.fr) := (HX7.out.cell 14).trans H14.out
            have HOW := Lib.hid hown
            have HVR := Lib.hid hvr'
            have hX6l := HX6.out.lt
            have hY6l := HY6.out.lt
            have hgw : w.heap.size + 1 < g := by omega
            have hll2 : i < l.length := by rw [HLEN.out]; exact hll
            have hln2 : l.length ≤ 4096 := by rw [HLEN.out]; exact hlen
            have hcp2 : l.length ≤ cap7 := (SlV.of_owns hown hvr'.row).2 |> fun ⟨_, _, h1, h2⟩ => by cases h1; exact h2.2.1
            have hcp3 : cap7 ≤ 9223372036854775807 := (SlV.of_owns hown hvr'.row).2 |> fun ⟨_, _, h1, h2⟩ => by cases h1; exact h2.2.2.1
            have HG6 := Lib.hid hg6
            clear hown hvr hvr' hb7 hvs hcur hg6 hg7
            by_cases h9 : v.fr + o - 1 < u.to
            · have h9' : decide (v.fr + o - 1 < u.to) = true := decide_eq_true h9
              have hrl : rotL l i u (v.fr + o - 1) = l.set i (u.ended (v.fr + o - 1)) := by unfold rotL; rw [if_pos h9]
              have HRL := Lib.hid hrl
              have HX9 := Lib.hid (((HX7.out.other (C := g) (k := i * 18 + 15) (by omega) (.int .i64 (v.fr + o - 1))).other (C := g) (k := i * 18 + 16) (by omega) (.string ⟨#[]⟩)).other (C := g) (k := i * 18 + 17) (by omega) (.string ⟨#[]⟩))
              have HY9 := Lib.hid (((HY7.out.other (C := g) (k := i * 18 + 15) (by omega) (.int .i64 (v.fr + o - 1))).other (C := g) (k := i * 18 + 16) (by omega) (.string ⟨#[]⟩)).other (C := g) (k := i * 18 + 17) (by omega) (.string ⟨#[]⟩))
              have HB9 := Lib.hid (((HB7.out.setCell (p := ⟨g, i * 18 + 15, none⟩) (by simp only []; omega) (.int .i64 (v.fr + o - 1))).setCell (p := ⟨g, i * 18 + 16, none⟩) (by simp only []; omega) (.string ⟨#[]⟩)).setCell (p := ⟨g, i * 18 + 17, none⟩) (by simp only []; omega) (.string ⟨#[]⟩))
              have hq : ∀ b, b ≠ g → (((w7.setCell ⟨g, i * 18 + 15, none⟩ (.int .i64 (v.fr + o - 1))).setCell ⟨g, i * 18 + 16, none⟩ (.string ⟨#[]⟩)).setCell ⟨g, i * 18 + 17, none⟩ (.string ⟨#[]⟩)).heap[b]? = w7.heap[b]? := fun b hb => by
                rw [heap_setCell_other _ _ _ _ hb, heap_setCell_other _ _ _ _ hb, heap_setCell_other _ _ _ _ hb]
              have HS9 := Lib.hid (show SlN (((w7.setCell ⟨g, i * 18 + 15, none⟩ (.int .i64 (v.fr + o - 1))).setCell ⟨g, i * 18 + 16, none⟩ (.string ⟨#[]⟩)).setCell ⟨g, i * 18 + 17, none⟩ (.string ⟨#[]⟩)) A3 n3 c3 v.kr from HSO7.out.1.of_blocks fun h0 a ha => hq _ (by
                have h1 := ha ▸ HSO6.out.1
                have := h1.lt h0
                have := HG6.out
                omega))
              have HEN := Lib.hid (fun (w4 : World) hw => ended_row (w4 := w4) (v.fr + o - 1) HOW.out HVR.out HU.out hw)
              clear h9 hrl hq
              go_upto_region 17 with fail
              obtain ⟨w9, hw9⟩ : ∃ w9, ((w7.setCell ⟨g, i * 18 + 15, none⟩ (.int .i64 (v.fr + o - 1))).setCell ⟨g, i * 18 + 16, none⟩ (.string ⟨#[]⟩)).setCell ⟨g, i * 18 + 17, none⟩ (.string ⟨#[]⟩) = w9 := ⟨_, rfl⟩
              rw [hw9] at HX9 HY9 HB9 HS9 HEN ⊢
              clear hw9
              refine wp_region_lit ?_
              refine wpList_load_row rfl 35 _ rfl w.heap.size rfl 35 rr (0, 0) _ HX9.out Tryz.underlying35 rfl (by rw [HRS.out]; kernel_rfl) ?_
              iterate 3 go_step
              refine wpList_store_rowTo rfl 35 _ _ rfl rfl (w.heap.size + 1) rr rfl rfl 35 (ver0.arr (.slice none 0 0)) HY9.out (by rw [HRS.out]; kernel_rfl) (by rw [HRS.out]; rfl) HRO.out ?_
              have hg6 := HG6.out
              have HYA := Lib.hid (setRow_heap w9 (w.heap.size + 1) _ rr _ _ HY9.out)
              have HBA := Lib.hid (below_setRow HB9.out (g := w.heap.size + 1) (by omega) rr)
              have HSA := Lib.hid (show SlN (World.setRow w9 (w.heap.size + 1) rr) A3 n3 c3 v.kr from HS9.out.of_blocks fun h0 a ha => setRow_other _ _ _ _ (by have := (HSO6.out.2 h0 a ha).2; omega))
              have HLA := Lib.hid (show SlV (World.setRow w9 (w.heap.size + 1) rr) (some ⟨g, 0, none⟩) l.length cap7 (rotL l i u (v.fr + o - 1)) from by rw [HRL.out]; exact HEN.out _ (fun b hb => setRow_other _ _ _ _ (by omega)))
              obtain ⟨wa, hwa⟩ : ∃ wa, World.setRow w9 (w.heap.size + 1) rr = wa := ⟨_, rfl⟩
              rw [hwa] at HYA HBA HSA HLA ⊢
              clear hwa
              go_wp2
              refine bodyPost_ret (v := .tuple #[.agg rr, .slice (some ⟨g, 0, none⟩) l.length cap7, .int .i64 0]) (Eq.trans (results_row_tmp2 rfl _ _ (w.heap.size + 1) 35 rr (0, 0) _ rfl HYA.out Tryz.underlying35 rfl (by rw [HRS.out]; kernel_rfl)) (by rfl)) rfl ?_
              have hrln : (rotL l i u (v.fr + o - 1)).length = l.length := (by rw [HRL.out, List.length_set])
              exact .inr (.inr ⟨i, u, HO.out, HI.out, HU.out, .inr ⟨HG.out, .inr ⟨HR0.out, A3, n3, c3, _, cap7, by rw [← HRV.out, hrln]; rfl, HSA.out, by rw [hrln]; exact HLA.out, HBA.out⟩⟩⟩)
            · have h9' : decide (v.fr + o - 1 < u.to) = false := decide_eq_false h9
              have HRL := Lib.hid (show rotL l i u (v.fr + o - 1) = l from by unfold rotL; rw [if_neg h9])
              have HX9 := HX7
              have HY9 := HY7
              have HB9 := HB7
              have HS9 := Lib.hid HSO7.out.1
              have HEN := Lib.hid (fun (w4 : World) hw => plain_row (w4 := w4) HOW.out HVR.out hw)
              clear h9
              go_upto_region 17 with fail
              refine wp_region_lit ?_
              refine wpList_load_row rfl 35 _ rfl w.heap.size rfl 35 rr (0, 0) _ HX9.out Tryz.underlying35 rfl (by rw [HRS.out]; kernel_rfl) ?_
              iterate 3 go_step
              refine wpList_store_rowTo rfl 35 _ _ rfl rfl (w.heap.size + 1) rr rfl rfl 35 (ver0.arr (.slice none 0 0)) HY9.out (by rw [HRS.out]; kernel_rfl) (by rw [HRS.out]; rfl) HRO.out ?_
              have hg6 := HG6.out
              have HYA := Lib.hid (setRow_heap w7 (w.heap.size + 1) _ rr _ _ HY9.out)
              have HBA := Lib.hid (below_setRow HB9.out (g := w.heap.size + 1) (by omega) rr)
              have HSA := Lib.hid (show SlN (World.setRow w7 (w.heap.size + 1) rr) A3 n3 c3 v.kr from HS9.out.of_blocks fun h0 a ha => setRow_other _ _ _ _ (by have := (HSO6.out.2 h0 a ha).2; omega))
              have HLA := Lib.hid (show SlV (World.setRow w7 (w.heap.size + 1) rr) (some ⟨g, 0, none⟩) l.length cap7 (rotL l i u (v.fr + o - 1)) from by rw [HRL.out]; exact HEN.out _ (fun b hb => setRow_other _ _ _ _ (by omega)))
              obtain ⟨wa, hwa⟩ : ∃ wa, World.setRow w7 (w.heap.size + 1) rr = wa := ⟨_, rfl⟩
              rw [hwa] at HYA HBA HSA HLA ⊢
              clear hwa
              go_wp2
              refine bodyPost_ret (v := .tuple #[.agg rr, .slice (some ⟨g, 0, none⟩) l.length cap7, .int .i64 0]) (Eq.trans (results_row_tmp2 rfl _ _ (w.heap.size + 1) 35 rr (0, 0) _ rfl HYA.out Tryz.underlying35 rfl (by rw [HRS.out]; kernel_rfl)) (by rfl)) rfl ?_
              have hrln : (rotL l i u (v.fr + o - 1)).length = l.length := (by rw [HRL.out])
              exact .inr (.inr ⟨i, u, HO.out, HI.out, HU.out, .inr ⟨HG.out, .inr ⟨HR0.out, A3, n3, c3, _, cap7, by rw [← HRV.out, hrln]; rfl, HSA.out, by rw [hrln]; exact HLA.out, HBA.out⟩⟩⟩)
          · have HR0 := Lib.hid (show (v.next u).msg.2 ≠ 0 from by rw [HR.out]; exact h0)
            have h0' : (r2 != 0) = true := by simpa using h0
            have HE2 := Lib.hid (show (v.next u).msg.2 = r2 from by rw [HR.out])
            clear h0
            go_upto_region 12 with fail
            refine wp_region_lit ?_
            iterate 7 go_step
            refine wp_store_row 35 _ _ rfl (w.heap.size + 1) (ver0.arr (.slice none 0 0)) rfl rfl 35 (ver0.arr (.slice none 0 0)) HY6.out (by kernel_rfl) rfl ver0.arr_one ?_
            have HYe := Lib.hid (setRow_heap w6 (w.heap.size + 1) _ (ver0.arr (.slice none 0 0)) _ _ HY6.out)
            have HBe := Lib.hid (below_setRow HB6.out (g := w.heap.size + 1) (by omega) (ver0.arr (.slice none 0 0)))
            obtain ⟨we, hwe⟩ : ∃ we, World.setRow w6 (w.heap.size + 1) (ver0.arr (.slice none 0 0)) = we := ⟨_, rfl⟩
            rw [hwe] at HYe HBe ⊢
            clear hwe
            go_wp2
            refine bodyPost_ret (v := .tuple #[.agg (ver0.arr (.slice none 0 0)), .slice none 0 0, .int .i64 r2]) (Eq.trans (results_row_tmp2 rfl _ _ (w.heap.size + 1) 35 (ver0.arr (.slice none 0 0)) (0, 0) _ rfl HYe.out Tryz.underlying35 rfl (by kernel_rfl)) (by rfl)) rfl ?_
            have HRR := Lib.hid (show RetRv .i64 ver0 [] r2 w (.returned (.tuple #[.agg (ver0.arr (.slice none 0 0)), .slice none 0 0, .int .i64 r2])) we from ⟨none, 0, 0, none, 0, rfl, ⟨rfl, Nat.le_refl _, Nat.zero_le _, 0, 0, fun h => absurd h (Nat.lt_irrefl _), fun k s h => by simp [ver0] at h⟩, SlV.nil _ 0 (by omega) none, HBe.out⟩)
            exact .inr (.inr ⟨i, u, HO.out, HI.out, HU.out, .inr ⟨HG.out, .inl ⟨HR0.out, by rw [HE2.out]; exact HRR.out⟩⟩⟩)
end Go.Proofs.YtecmmdealjhdpaaGreat
/- The examples of the chapter: plain facts. -/
set_option linter.unusedVariables false
set_option linter.unusedSimpArgs false
namespace Go.Proofs.YtecmmdealjhdpaaGreat
open Go.RowKit
def mkV (a b c : Int) : Ver := ⟨⟨#[97]⟩, a, ⟨#[97]⟩, ⟨#[]⟩, ⟨#[]⟩, ⟨#[]⟩, ⟨#[]⟩, [], ⟨#[]⟩, ⟨#[]⟩, ⟨#[]⟩, ⟨#[]⟩, ⟨#[]⟩, ⟨#[]⟩, b, c, ⟨#[]⟩, ⟨#[]⟩⟩
def exL : List Ver := [mkV 1 0 9, mkV 2 5 20]
theorem ex_cur4 : bestV (curP ⟨#[97]⟩ 4) exL = some (mkV 1 0 9) := by simp [bestV, exL, stepV, curP, vvalid, mkV]
theorem ex_cur5 : bestV (curP ⟨#[97]⟩ 5) exL = some (mkV 2 5 20) := by simp [bestV, exL, stepV, curP, vvalid, mkV]
theorem ex_cur21 : bestV (curP ⟨#[97]⟩ 21) exL = none := by simp [bestV, exL, stepV, curP, vvalid, mkV]
theorem ex_hit : hitV ⟨#[97]⟩ 1 (mkV 1 0 9) = true := by simp [hitV, mkV]
theorem ex_far : vvalid (mkV 1 0 9) 10 = false := by simp [vvalid, mkV]
theorem ex_none : findV exL ⟨#[97]⟩ 3 = none := by
  refine findV_none fun i u hu => ?_
  have hl := (List.getElem?_eq_some_iff.1 hu).1
  rcases (show i = 0 ∨ i = 1 from by simp [exL] at hl; omega) with rfl | rfl <;> (cases hu; simp [hitV, mkV])
theorem ex_last : lastI exL ⟨#[97]⟩ = some 1 := by simp [lastI, exL, bestI, nameP, mkV]
theorem ex_next : (mkV 0 12 0).next (mkV 2 5 20) = mkV 3 12 4096 := by simp [Ver.next, mkV]
theorem ex_rot : rotL exL 1 (mkV 2 5 20) 14 = [mkV 1 0 9, mkV 2 5 14] := by simp [rotL, exL, mkV, Ver.ended]
theorem nvalid_e : nvalid ⟨#[]⟩ = true := nvalid_nil rfl
theorem ex_okN (a b c : Int) : (mkV a b c).okN = true := by simp [Ver.okN, Ver.nums, Ver.ten, mkV, nvalid_e]
theorem ex_name : knameB ⟨#[97]⟩ = true := by decide
theorem encN_small {n : Nat} (h : n ≤ 4096) : nvalid (bstr (encN n)) = true := by
  have := (nvalid_nS (n := n)).2 (Nat.lt_of_le_of_lt h (by decide))
  exact this
theorem natIt_valid (a : ByteArray) : (natIt a).valid = nvalid a := by
  have e0 : (⟨#[]⟩ : ByteArray).size = 0 := rfl
  simp [natIt, It.valid, e0]
theorem natIts_valid (l : List ByteArray) : Its.valid (l.map natIt) = l.all nvalid := by
  induction l with
  | nil => rfl
  | cons a l ih => rw [List.map_cons, Its.valid, ih, natIt_valid, List.all_cons]
theorem txt_valid (a : ByteArray) : (txt a).valid = true := by
  have e0 : (⟨#[]⟩ : ByteArray).size = 0 := rfl
  simp [txt, It.valid, e0]
theorem lst_valid (l : List It) : (lst l).valid = Its.valid l := by
  have e0 : (⟨#[]⟩ : ByteArray).size = 0 := rfl
  simp [lst, It.valid, e0]
theorem natIt_depth (a : ByteArray) : (natIt a).depth = 0 := by simp [natIt, It.depth]
theorem txt_depth (a : ByteArray) : (txt a).depth = 0 := by simp [txt, It.depth]
theorem lst_depth (l : List It) : (lst l).depth = Its.depth l + 1 := by simp [lst, It.depth]
theorem natIts_depth (l : List ByteArray) : Its.depth (l.map natIt) = 0 := by
  induction l with
  | nil => rfl
  | cons a l ih => rw [List.map_cons, Its.depth, ih, natIt_depth]; rfl
theorem it_ok {v : Ver} (hok : v.okN = true) (hn : v.kr.length ≤ 100) (hs : v.name.size ≤ 32) (h1 : v.num.toNat ≤ 4096) (h2 : v.fr.toNat ≤ 4096) (h3 : v.to.toNat ≤ 4096) : (encS v.it).2 = 0 := by
  have hall : ∀ s ∈ v.nums, nvalid s = true := fun s h => by unfold Ver.okN at hok; rw [List.all_eq_true] at hok; exact hok s h
  have hw : v.it.weight ≤ 65536 := by
    have g : ∀ s ∈ v.nums, s.size ≤ 128 := fun s h => valid_sz (hall s h)
    have hw := natIt_weight v.kr (fun s h => g s (List.mem_append.2 (.inr h)))
    have g : ∀ s ∈ v.ten, s.size ≤ 128 := fun s h => g s (List.mem_append.2 (.inl h))
    simp only [Ver.ten, List.mem_cons, List.mem_nil_iff, or_false, forall_eq_or_imp, forall_eq] at g
    obtain ⟨g1, g2, g3, g4, g5, g6, g7, g8, g9, g10⟩ := g
    have e0 : (⟨#[]⟩ : ByteArray).size = 0 := rfl
    have e1 : (⟨#[118, 101, 114, 115, 105, 111, 110]⟩ : ByteArray).size = 7 := rfl
    have n1 : (encN v.num.toNat).length ≤ 8 := encN_length_le.2 (by omega)
    have n2 : (encN v.fr.toNat).length ≤ 8 := encN_length_le.2 (by omega)
    have n3 : (encN v.to.toNat).length ≤ 8 := encN_length_le.2 (by omega)
    generalize hq : List.map natIt v.kr = q at *
    simp only [Ver.it, Ver.kit, Ver.sit, lst, txt, hq, It.weight, Its.weight, List.map_cons, List.map_nil]
    simp only [natIt, It.weight, Its.weight, bstr_size, e0, e1]
    omega
  have hb := Nat.le_trans (It.bytes_le v.it) hw
  have hv : v.it.valid = true := by
    have k1 : ∀ s ∈ v.ten, nvalid s = true := fun s h => hall s (List.mem_append.2 (.inl h))
    have k2 : v.kr.all nvalid = true := by rw [List.all_eq_true]; exact fun s h => hall s (List.mem_append.2 (.inr h))
    simp only [Ver.ten, List.mem_cons, List.mem_nil_iff, or_false, forall_eq_or_imp, forall_eq] at k1
    obtain ⟨g1, g2, g3, g4, g5, g6, g7, g8, g9, g10⟩ := k1
    unfold Ver.it Ver.kit Ver.sit
    simp only [lst_valid, Its.valid, txt_valid, natIt_valid, natIts_valid, List.map_cons, List.map_nil, g1, g2, g3, g4, g5, g6, g7, g8, g9, g10, k2, encN_small h1, encN_small h2, encN_small h3, Bool.and_self]
  have hd : v.it.depth ≤ 32 := by
    unfold Ver.it Ver.kit Ver.sit
    simp only [lst_depth, Its.depth, txt_depth, natIt_depth, natIts_depth, List.map_cons, List.map_nil]
    decide
  unfold encS
  rw [hv, if_neg (by decide), if_neg (by omega), if_neg (by omega)]
theorem ex_msg : ((mkV 3 12 4096).msg).2 = 0 := by
  have hok := ex_okN 3 12 4096
  have hfar : ¬ (mkV 3 12 4096).far := by simp [Ver.far, mkV]
  have hkn : (knameB (mkV 3 12 4096).name && decide ((mkV 3 12 4096).kn = (mkV 3 12 4096).name)) = true := by
    rw [show (mkV 3 12 4096).name = ⟨#[97]⟩ from rfl, show (mkV 3 12 4096).kn = ⟨#[97]⟩ from rfl, ex_name]; simp
  unfold Ver.msg
  rw [hok, if_neg (by decide), if_neg (by rw [hkn]; decide), if_neg hfar]
  exact it_ok hok (by simp [mkV]) (by simp [mkV]; decide) (by simp [mkV]) (by simp [mkV]) (by simp [mkV])
end Go.Proofs.YtecmmdealjhdpaaGreat

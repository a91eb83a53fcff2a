/- Walks: dominolaw58.few, keyring.Check. -/
import Derived.Test.YtecmmdealjhdpaaGreatQKbC
import Derived.Test.YtecmmdealjhdpaaGreatQScS
import Derived.Test.YtecmmdealjhdpaaGreatQKyW
set_option linter.unusedVariables false
set_option linter.unusedSimpArgs false
namespace Go.Proofs.YtecmmdealjhdpaaGreat
open Go.RowKit
def rtV (M O G Y X : ByteArray) : Value := .agg #[.string M, .string O, .string G, .string Y, .string X]
def fewR (M O G Y X : ByteArray) : Bool := decide ((M.size : Int) ≤ 8) && (decide ((O.size : Int) ≤ 8) && (decide ((G.size : Int) ≤ 9) && (decide ((Y.size : Int) ≤ 9) && decide ((X.size : Int) ≤ 9))))
set_option maxRecDepth 100000 in
set_option maxHeartbeats 1000000 in
theorem law58_few (M O G Y X : ByteArray) (w : World) : Calls Tryz.prog 4 #[rtV M O G Y X] w (Ret (.bool (fewR M O G Y X)) w) := by
  obtain ⟨W0, hW0⟩ : ∃ W0, w.alloc (.cells #[.string M, .string O, .string G, .string Y, .string X] 28) = W0 := ⟨_, rfl⟩
  have HB0 := Lib.hid (show Below w.heap.size w W0 from by rw [← hW0]; exact (Below.refl _ _).alloc (Nat.le_refl _) _)
  have HX := Lib.hid (show BxC W0 w.heap.size #[.string M, .string O, .string G, .string Y, .string X] 28 from by rw [← hW0]; exact BxC.new w _ _)
  have x0 : W0.cell? ⟨w.heap.size, 0, none⟩ = some (.string M) := HX.out.cell 0
  have x1 : W0.cell? ⟨w.heap.size, 1, none⟩ = some (.string O) := HX.out.cell 1
  have x2 : W0.cell? ⟨w.heap.size, 2, none⟩ = some (.string G) := HX.out.cell 2
  have x3 : W0.cell? ⟨w.heap.size, 3, none⟩ = some (.string Y) := HX.out.cell 3
  have x4 : W0.cell? ⟨w.heap.size, 4, none⟩ = some (.string X) := HX.out.cell 4
  unfold rtV
  go_enter Tryz.func4, Tryz.ntmps4
  go_upto_region 1 with fail
  try rw [hW0]
  clear hW0
  cases h0 : decide ((M.size : Int) ≤ 8) with
  | false =>
    go_wp2
    go_ret
    exact ⟨by simp [fewR, h0], HB0.out⟩
  | true =>
  cases h1 : decide ((O.size : Int) ≤ 8) with
  | false =>
    go_wp2
    go_ret
    exact ⟨by simp [fewR, h0, h1], HB0.out⟩
  | true =>
  cases h2 : decide ((G.size : Int) ≤ 9) with
  | false =>
    go_wp2
    go_ret
    exact ⟨by simp [fewR, h0, h1, h2], HB0.out⟩
  | true =>
  cases h3 : decide ((Y.size : Int) ≤ 9) with
  | false =>
    go_wp2
    go_ret
    exact ⟨by simp [fewR, h0, h1, h2, h3], HB0.out⟩
  | true =>
  cases h4 : decide ((X.size : Int) ≤ 9) with
  | false =>
    go_wp2
    go_ret
    exact ⟨by simp [fewR, h0, h1, h2, h3, h4], HB0.out⟩
  | true =>
    go_wp2
    go_ret
    exact ⟨by simp [fewR, h0, h1, h2, h3, h4], HB0.out⟩
def ckV (M O G Y : ByteArray) (v : Ver) : Int := if v.msg.2 = 0 then veK M O G Y v.sc v.sr v.msg.1 else v.msg.2
theorem encS_size (x : It) : (encS x).1.size ≤ 1000000 := by
  unfold encS
  split
  · decide
  split
  · decide
  split
  · decide
  · rw [bstr_size]; omega
theorem Ver.msg_size (v : Ver) : v.msg.1.size ≤ 1000000 := by
  unfold Ver.msg
  split
  · decide
  split
  · decide
  split
  · decide
  · exact encS_size _
set_option maxRecDepth 100000 in
set_option maxHeartbeats 4000000 in
theorem ky_Check (M O G Y : ByteArray) (v : Ver) (A : Option Addr) (n c : Nat) (w : World) (hs : SlN w A n c v.kr) (hn : n ≤ 100) (hz : SzL v.str) (hM : M.size ≤ 8) (hO : O.size ≤ 100) (hG : G.size ≤ 1000) (hY : Y.size ≤ 1000) (hc : v.sc.size ≤ 1000) (hr : v.sr.size ≤ 1000) :
    Calls Tryz.prog 9 #[kV M O G Y, .agg (v.arr (.slice A n c))] w (Ret (.int .i64 (ckV M O G Y v)) w) := by
  obtain ⟨cs, hcs⟩ : ∃ cs, v.arr (.slice A n c) = cs := ⟨_, rfl⟩
  rw [hcs]
  have HVA := Lib.hid hcs
  have HCS := Lib.hid (show cs.size = 18 from by rw [← hcs]; rfl)
  obtain ⟨W0, hW0⟩ : ∃ W0, (w.alloc (.cells #[.string M, .string O, .string G, .string Y] 26)).alloc (.cells cs 35) = W0 := ⟨_, rfl⟩
  have HK0 := Lib.hid (show BxC W0 w.heap.size #[.string M, .string O, .string G, .string Y] 26 from by rw [← hW0]; exact (BxC.new w _ _).next ((Below.refl _ _).alloc (Nat.le_refl _) _))
  have HX0 := Lib.hid (show BxC W0 (w.heap.size + 1) cs 35 from by rw [← hW0]; exact BxC.new1 w _ _ _)
  have HB0 := Lib.hid (show Below w.heap.size w W0 from by rw [← hW0]; exact ((Below.refl _ _).alloc (Nat.le_refl _) _).alloc (by simp) _)
  have HM := Lib.hid (show ∀ W, Below w.heap.size w W → Calls Tryz.prog 7 #[.agg cs] W (RetSE v.msg W) from fun W hb => by rw [← hcs]; exact ky_Message v A n c W (hs.kept hb (Nat.le_refl _)) hn hz)
  have HV := Lib.hid (fun W => sc_Verify M O G Y v.sc v.sr v.msg.1 hM hO hG hY hc hr v.msg_size W)
  obtain ⟨r1, r2, hr1⟩ : ∃ r1 r2, v.msg = (r1, r2) := ⟨_, _, rfl⟩
  have HCK := Lib.hid (show ckV M O G Y v = if r2 = 0 then veK M O G Y v.sc v.sr r1 else r2 from by unfold ckV; rw [hr1])
  rw [hr1] at HM HV
  unfold kV at HV ⊢
  clear hs hcs hr1
  go_enter Tryz.func9, Tryz.ntmps9
  go_upto_region 1 with fail
  try rw [hW0]
  clear hW0
  refine wp_region_lit ?_
  refine wpList_load_row rfl 35 _ rfl (w.heap.size + 1) rfl 35 cs (0, 0) _ HX0.out Tryz.underlying35 rfl (by rw [HCS.out]; kernel_rfl) ?_
  go_wp2_with fail
  refine (HM.out W0 HB0.out).mono ?_
  rintro e w1 ⟨rfl, hb1⟩
  have HK1 := Lib.hid (HK0.out.next hb1)
  have HX1 := Lib.hid (HX0.out.next hb1)
  have HB1 := Lib.hid (HB0.out.trans (hb1.mono HB0.out.size))
  clear hb1
  by_cases hz2 : r2 = 0
  · subst hz2
    have HCK := Lib.hid (show ckV M O G Y v = veK M O G Y v.sc v.sr r1 from by rw [HCK.out, if_pos rfl])
    have k0 : w1.cell? ⟨w.heap.size, 0, none⟩ = some (.string M) := HK1.out.cell 0
    have k1 : w1.cell? ⟨w.heap.size, 1, none⟩ = some (.string O) := HK1.out.cell 1
    have k2 : w1.cell? ⟨w.heap.size, 2, none⟩ = some (.string G) := HK1.out.cell 2
    have k3 : w1.cell? ⟨w.heap.size, 3, none⟩ = some (.string Y) := HK1.out.cell 3
    have x16 : w1.cell? ⟨w.heap.size + 1, 16, none⟩ = some (.string v.sc) := (HX1.out.cell 16).trans (by rw [← HVA.out]; rfl)
    have x17 : w1.cell? ⟨w.heap.size + 1, 17, none⟩ = some (.string v.sr) := (HX1.out.cell 17).trans (by rw [← HVA.out]; rfl)
    go_wp2_with fail
    refine (HV.out w1).mono ?_
    rintro e w2 ⟨rfl, hb2⟩
    have HB2 := Lib.hid (HB1.out.trans (hb2.mono HB1.out.size))
    clear hb2
    go_wp2
    go_ret
    exact ⟨by rw [HCK.out]; rfl, HB2.out⟩
  · have hne : (r2 != 0) = true := by simp [hz2]
    have HCK := Lib.hid (show ckV M O G Y v = r2 from by rw [HCK.out, if_neg hz2])
    go_wp2
    go_ret
    exact ⟨by rw [HCK.out]; rfl, HB1.out⟩
end Go.Proofs.YtecmmdealjhdpaaGreat
/- Walk: the law KeyringBinds. -/
set_option linter.unusedVariables false
set_option linter.unusedSimpArgs false
namespace Go.Proofs.YtecmmdealjhdpaaGreat
open Go.RowKit
theorem load_rowG {P : Program} {ops : Array Oper} {rest : List Oper} {o : Oper} {a : Act} {w : World} {Q : Exit → Act → World → Prop} (hw : Region.wanted o (yielded ops a.tmps) = true) (ty : TypeId) (x : Operand) (ho : o.op = .load ty x)
    (g : Nat) (hx : a.eval x = .pointer (some ⟨g, 0, none⟩)) (t : TypeId) (cs : Array Value) (fr : Nat × Nat) (d : TypeDesc) (hg : w.heap[g]? = some (.cells cs t fr))
    (hu : P.underlying ty = some d) (hd : (match d with | .struct _ | .array _ _ => true | _ => false) = true) (hi : (P.info? ty).map (·.size) = some cs.size)
    (h : wpList P ops Q rest (a.put o.dst (.agg cs)) w) : wpList P ops Q (o :: rest) a w :=
  wpList_step fun K hK => by
    rw [if_pos hw]
    exact wp_load_row ty x ho g hx t cs fr d hg hu hd hi (hK _ _ h)
theorem load_rowR {P : Program} {op : Oper} {a : Act} {w : World} (ty : TypeId) (x : Operand) (ho : op.op = .load ty x) (g : Nat) (hx : a.eval x = .pointer (some ⟨g, 0, none⟩)) (t : TypeId) (cs : Array Value) (fr : Nat × Nat) (d : TypeDesc) (hg : w.heap[g]? = some (.cells cs t fr))
    (hu : P.underlying ty = some d) (hd : (match d with | .struct _ | .array _ _ => true | _ => false) = true) (hi : (P.info? ty).map (·.size) = some cs.size) : (execOp a.eval op).run P w = .ok (.value (.agg cs)) w := by
  unfold execOp
  simp only [ho, hx, Instr.loadAt, Instr.sureAddr, Sem.run_bind, Sem.run_pure, Result.andThen_ok, run_loadVar_row w g t ty cs fr d hg hu hd hi]
def twoC (v u : Ver) (x y : Value) : Array Value := (v.vals x ++ u.vals y).toArray
theorem two_fill (v u : Ver) (A A' : Option Addr) (n c n' c' : Nat) : Instr.fill (fun i => some (i * 18, 18)) ((Array.range (2 * 18)).map ((Value.agg (ver0.arr (.slice none 0 0))).cells[· % (Value.agg (ver0.arr (.slice none 0 0))).cells.size]!)) [(0, .agg (v.arr (.slice A n c))), (1, .agg (u.arr (.slice A' n' c')))] = some (twoC v u (.slice A n c) (.slice A' n' c')) := by kernel_rfl
theorem wpList_build_two {ops : Array Oper} {rest : List Oper} {o : Oper} {a : Act} {w : World} {Q : Exit → Act → World → Prop} (hw : Region.wanted o (yielded ops a.tmps) = true) (x y : Operand) (ho : o.op = .buildSlice 45 2 #[(0, x), (1, y)]) (v u : Ver) (A A' : Option Addr) (n c n' c' : Nat) (hx : a.eval x = .agg (v.arr (.slice A n c))) (hy : a.eval y = .agg (u.arr (.slice A' n' c')))
    (h : wpList Tryz.prog ops Q rest (a.put o.dst (.slice (some ⟨w.heap.size, 0, none⟩) 2 2)) (w.alloc (.cells (twoC v u (.slice A n c) (.slice A' n' c')) 35))) : wpList Tryz.prog ops Q (o :: rest) a w := by
  obtain ⟨i0, hi, iz0, iz1, iz2⟩ := info_parts ver_info
  refine wpList_step fun K hK => ?_
  rw [if_pos hw]
  refine wp_buildSlice _ 35 2 _ ho (twoC v u (.slice A n c) (.slice A' n' c')) i0 _ Tryz.underlying45 hi iz0 (by rw [iz1]; decide) (by rw [iz1]; decide) ?_ (hK _ _ h)
  rw [iz1]
  have e : (Array.map (fun x => (x.1, a.eval x.2)) #[(0, x), (1, y)]).toList = [(0, .agg (v.arr (.slice A n c))), (1, .agg (u.arr (.slice A' n' c')))] := by simp [hx, hy]
  show Instr.fill _ _ (Array.map (fun x => (x.1, a.eval x.2)) #[(0, x), (1, y)]).toList = _
  rw [e]
  exact two_fill v u A A' n c n' c'
theorem two_slice {W : World} {g : Nat} {T : TypeId} {v u : Ver} {A A' : Option Addr} {n c n' c' : Nat} (h : BxC W g (twoC v u (.slice A n c) (.slice A' n' c')) T) (hs : SlN W A n c v.kr) (hs' : SlN W A' n' c' u.kr) : SlV W (some ⟨g, 0, none⟩) 2 2 [v, u] := by
  refine ⟨rfl, Nat.le_refl _, by omega, g, 0, fun _ => rfl, fun k x hk => ?_⟩
  have hl := (List.getElem?_eq_some_iff.1 hk).1
  rcases (show k = 0 ∨ k = 1 from by simp at hl; omega) with rfl | rfl
  · cases hk
    refine ⟨A, n, c, fun j y hy => ?_, hs⟩
    have hj := (List.getElem?_eq_some_iff.1 hy).1
    rw [show 0 + 0 * 18 + j = j from by omega, h.cell]
    unfold twoC
    rw [List.getElem?_toArray, List.getElem?_append_left hj]
    exact hy
  · cases hk
    refine ⟨A', n', c', fun j y hy => ?_, hs'⟩
    rw [h.cell]
    unfold twoC
    rw [List.getElem?_toArray, List.getElem?_append_right (by rw [Ver.vals_length]; omega), Ver.vals_length, show 0 + 1 * 18 + j - 18 = j from by omega]
    exact hy
theorem fewV_open {v : Ver} (h : fewV v = true) : v.kr.length ≤ 6 ∧ v.sc.size ≤ 9 ∧ v.sr.size ≤ 9 := by
  unfold fewV fewKeyB shortB at h
  simp only [Bool.and_eq_true, decide_eq_true_eq, List.all_cons, List.all_nil] at h
  exact ⟨h.2.1.2.2.1, h.2.2.2.2.2.2.1, h.2.2.2.2.2.2.2.1⟩
theorem kname_size {s : ByteArray} (h : knameB s = true) : s.size ≤ 32 := by
  unfold knameB at h
  simp only [Bool.and_eq_true, decide_eq_true_eq] at h
  exact h.2.2
theorem binds_eq {v u : Ver} (hv : v.msg.2 = 0) (hu : u.msg.2 = 0) (nv : v.kr.length ≤ 6) (nu : u.kr.length ≤ 6) : (v.msg.1.toList == u.msg.1.toList) = sameV v (u.sigged v.sc v.sr) := by
  rw [Bool.eq_iff_iff, sameV_iff]
  constructor
  · intro h
    exact Ver.msg_inj hv hu (by omega) (by omega) (kname_size (Ver.msg_ok hv).2.2.2.2.2.2.2.1) (kname_size (Ver.msg_ok hu).2.2.2.2.2.2.2.1) (str_of_beq h)
  · intro h
    have e : v.msg = u.msg := (congrArg Ver.msg h).trans (Ver.msg_sigged u _ _)
    rw [e, beq_iff_eq]
theorem sigged_sz {v u : Ver} (h : SzL u.str) (hv : SzL v.str) : SzL (u.sigged v.sc v.sr).str := fun s hs => by
  have : s ∈ u.str ∨ s ∈ v.str := by
    simp only [Ver.str, Ver.keyStr, Ver.sigged, List.mem_append, List.mem_cons, List.mem_nil_iff, or_false] at hs ⊢
    rcases hs with (h | h | h | h | h | h | h) | (h | h | h | h | h | h | h) | h <;> simp [h]
  rcases this with h1 | h1
  · exact h s h1
  · exact hv s h1
set_option maxRecDepth 100000 in
set_option maxHeartbeats 4000000 in
theorem walk_binds58 (M O G Y X : ByteArray) (v u : Ver) (A A' : Option Addr) (n c n' c' : Nat) (w : World) (hs : SlN w A n c v.kr) (hs' : SlN w A' n' c' u.kr) (hz : SzL v.str) (hz' : SzL u.str) :
    Calls Tryz.prog 3 #[rtV M O G Y X, .agg (v.arr (.slice A n c)), .agg (u.arr (.slice A' n' c'))] w (Ret (.bool true) w) := by
  obtain ⟨cs, hcs⟩ : ∃ cs, v.arr (.slice A n c) = cs := ⟨_, rfl⟩
  obtain ⟨ds, hds⟩ : ∃ ds, u.arr (.slice A' n' c') = ds := ⟨_, rfl⟩
  rw [hcs, hds]
  have HVA := Lib.hid hcs
  have HUA := Lib.hid hds
  have HCS := Lib.hid (show cs.size = 18 from by rw [← hcs]; rfl)
  have HDS := Lib.hid (show ds.size = 18 from by rw [← hds]; rfl)
  have HDO := Lib.hid (show ds.all (·.oneCell') = true from by rw [← hds]; exact u.arr_one)
  have HSL := Lib.hid hs
  have HSL' := Lib.hid hs'
  have HZ := Lib.hid hz
  have HZ' := Lib.hid hz'
  obtain ⟨W0, hW0⟩ : ∃ W0, ((w.alloc (.cells #[.string M, .string O, .string G, .string Y, .string X] 28)).alloc (.cells cs 35)).alloc (.cells ds 35) = W0 := ⟨_, rfl⟩
  have HR0 := Lib.hid (show BxC W0 w.heap.size #[.string M, .string O, .string G, .string Y, .string X] 28 from by rw [← hW0]; exact ((BxC.new w _ _).next ((Below.refl _ _).alloc (Nat.le_refl _) _)).next ((Below.refl _ _).alloc (Nat.le_refl _) _))
  have HX0 := Lib.hid (show BxC W0 (w.heap.size + 1) cs 35 from by rw [← hW0]; exact (BxC.new1 w _ _ _).next ((Below.refl _ _).alloc (Nat.le_refl _) _))
  have HY0 := Lib.hid (show BxC W0 (w.heap.size + 1 + 1) ds 35 from by
    rw [← hW0]
    have := BxC.new1 (w.alloc (.cells #[.string M, .string O, .string G, .string Y, .string X] 28)) ds 35 (.cells cs 35)
    rw [World.size_alloc] at this
    exact this)
  have HB0 := Lib.hid (show Below w.heap.size w W0 from by rw [← hW0]; exact (((Below.refl _ _).alloc (Nat.le_refl _) _).alloc (by simp) _).alloc (by simp; omega) _)
  have c0 : W0.cell? ⟨w.heap.size, 0, none⟩ = some (.string M) := HR0.out.cell 0
  have c1 : W0.cell? ⟨w.heap.size, 1, none⟩ = some (.string O) := HR0.out.cell 1
  have c2 : W0.cell? ⟨w.heap.size, 2, none⟩ = some (.string G) := HR0.out.cell 2
  have c3 : W0.cell? ⟨w.heap.size, 3, none⟩ = some (.string Y) := HR0.out.cell 3
  have c4 : W0.cell? ⟨w.heap.size, 4, none⟩ = some (.string X) := HR0.out.cell 4
  have HFR := Lib.hid (law58_few M O G Y X W0)
  obtain ⟨f, hf⟩ : ∃ f, fewR M O G Y X = f := ⟨_, rfl⟩
  rw [hf] at HFR
  have HF := Lib.hid hf
  unfold rtV at HFR ⊢
  clear hs hs' hz hz' hcs hds hf
  go_enter Tryz.func3, Tryz.ntmps3
  go_wp2_with fail
  try rw [hW0]
  clear hW0
  refine HFR.out.mono ?_
  rintro e w1 ⟨rfl, hb1⟩
  have HR1 := Lib.hid (HR0.out.next hb1)
  have HX1 := Lib.hid (HX0.out.next hb1)
  have HY1 := Lib.hid (HY0.out.next hb1)
  have HB1 := Lib.hid (HB0.out.trans (Below.mono hb1 HB0.out.size))
  clear hb1 c0 c1 c2 c3 c4 HFR
  cases f with
  | false =>
    go_wp2_with fail
    refine (law_awake _).mono ?_
    rintro e wa ⟨rfl, hba⟩
    have HBA := Lib.hid (HB1.out.trans (hba.mono HB1.out.size))
    clear hba
    go_wp2
    go_ret
    exact ⟨rfl, HBA.out⟩
  | true =>
    dsimp only
    iterate 7 go_step
    refine load_rowG (by kernel_rfl) 35 _ rfl (w.heap.size + 1) rfl 35 cs (0, 0) _ HX1.out Tryz.underlying35 rfl (by rw [HCS.out]; kernel_rfl) ?_
    refine load_rowG (by kernel_rfl) 35 _ rfl (w.heap.size + 1 + 1) rfl 35 ds (0, 0) _ HY1.out Tryz.underlying35 rfl (by rw [HDS.out]; kernel_rfl) ?_
    refine wpList_build_two (by kernel_rfl) _ _ rfl v u A A' n c n' c' (congrArg Value.agg HVA.out.symm) (congrArg Value.agg HUA.out.symm) ?_
    have hbt : Below w1.heap.size w1 (w1.alloc (.cells (twoC v u (.slice A n c) (.slice A' n' c')) 35)) := (Below.refl _ _).alloc (Nat.le_refl _) _
    have HR2 := Lib.hid (HR1.out.next hbt)
    have HX2 := Lib.hid (HX1.out.next hbt)
    have HY2 := Lib.hid (HY1.out.next hbt)
    have HB2 := Lib.hid (HB1.out.trans (Below.mono hbt HB1.out.size))
    have HFE := Lib.hid (law58_Few [v, u] (some ⟨w1.heap.size, 0, none⟩) 2 2 (w1.alloc (.cells (twoC v u (.slice A n c) (.slice A' n' c')) 35)) (two_slice (BxC.new _ _ _) (HSL.out.kept HB2.out (Nat.le_refl _)) (HSL'.out.kept HB2.out (Nat.le_refl _))) (fun k x hk => by
      have hl := (List.getElem?_eq_some_iff.1 hk).1
      rcases (show k = 0 ∨ k = 1 from by simp at hl; omega) with rfl | rfl
      · cases hk; exact HZ.out
      · cases hk; exact HZ'.out))
    obtain ⟨W2, hW2⟩ : ∃ W2, w1.alloc (.cells (twoC v u (.slice A n c) (.slice A' n' c')) 35) = W2 := ⟨_, rfl⟩
    rw [hW2] at HFE HR2 HX2 HY2 HB2 ⊢
    clear hW2 hbt
    obtain ⟨fl, hfl⟩ : ∃ fl, fewL [v, u] = fl := ⟨_, rfl⟩
    rw [hfl] at HFE
    have HFL := Lib.hid hfl
    clear hfl
    go_wp2_with fail
    refine HFE.out.mono ?_
    rintro e w3 ⟨rfl, hb3⟩
    have HR3 := Lib.hid (HR2.out.next hb3)
    have HX3 := Lib.hid (HX2.out.next hb3)
    have HY3 := Lib.hid (HY2.out.next hb3)
    have HB3 := Lib.hid (HB2.out.trans (Below.mono hb3 HB2.out.size))
    clear hb3 HFE HR1 HX1 HY1 HB1 HR2 HX2 HY2 HB2
    cases fl with
    | false =>
      go_wp2_with fail
      refine (law_awake _).mono ?_
      rintro e wa ⟨rfl, hba⟩
      have HBA := Lib.hid (HB3.out.trans (hba.mono HB3.out.size))
      clear hba
      go_wp2
      go_ret
      exact ⟨rfl, HBA.out⟩
    | true =>
      have hq := HFL.out
      simp only [fewL, List.take, List.all_cons, List.all_nil, Bool.and_eq_true] at hq
      obtain ⟨nv, zc, zr⟩ := fewV_open hq.1.1
      obtain ⟨nu, -, -⟩ := fewV_open hq.1.2.1
      have hm := HF.out
      unfold fewR at hm
      simp only [Bool.and_eq_true, decide_eq_true_eq] at hm
      obtain ⟨hM, hO, hG, hY, -⟩ := hm
      have hn : n ≤ 100 := by have := HSL.out.1; omega
      have hn' : n' ≤ 100 := by have := HSL'.out.1; omega
      have HM := Lib.hid (show ∀ W, Below w.heap.size w W → Calls Tryz.prog 7 #[.agg cs] W (RetSE v.msg W) from fun W hb => by rw [← HVA.out]; exact ky_Message v A n c W (HSL.out.kept hb (Nat.le_refl _)) hn HZ.out)
      have HM' := Lib.hid (show ∀ W, Below w.heap.size w W → Calls Tryz.prog 7 #[.agg ds] W (RetSE u.msg W) from fun W hb => by rw [← HUA.out]; exact ky_Message u A' n' c' W (HSL'.out.kept hb (Nat.le_refl _)) hn' HZ'.out)
      have HEQ := Lib.hid (fun hv hu => binds_eq (v := v) (u := u) hv hu nv nu)
      obtain ⟨r1, r2, hr⟩ : ∃ r1 r2, v.msg = (r1, r2) := ⟨_, _, rfl⟩
      obtain ⟨q1, q2, hr'⟩ : ∃ q1 q2, u.msg = (q1, q2) := ⟨_, _, rfl⟩
      rw [hr, hr'] at HEQ
      rw [hr] at HM
      rw [hr'] at HM'
      have HRV := Lib.hid hr
      clear hq hr hr'
      dsimp only
      go_upto_region 3 with fail
      refine wp_region_lit ?_
      refine wpList_load_row rfl 35 _ rfl (w.heap.size + 1) rfl 35 cs (0, 0) _ HX3.out Tryz.underlying35 rfl (by rw [HCS.out]; kernel_rfl) ?_
      go_wp2_with fail
      refine (HM.out w3 HB3.out).mono ?_
      rintro e w4 ⟨rfl, hb4⟩
      have HR4 := Lib.hid (HR3.out.next hb4)
      have HX4 := Lib.hid (HX3.out.next hb4)
      have HY4 := Lib.hid (HY3.out.next hb4)
      have HB4 := Lib.hid (HB3.out.trans (Below.mono hb4 HB3.out.size))
      clear hb4
      go_upto_region 4 with fail
      refine wp_region_lit ?_
      refine wpList_load_row rfl 35 _ rfl (w.heap.size + 1 + 1) rfl 35 ds (0, 0) _ HY4.out Tryz.underlying35 rfl (by rw [HDS.out]; kernel_rfl) ?_
      go_wp2_with fail
      refine (HM'.out w4 HB4.out).mono ?_
      rintro e w5 ⟨rfl, hb5⟩
      have HR5 := Lib.hid (HR4.out.next hb5)
      have HX5 := Lib.hid (HX4.out.next hb5)
      have HY5 := Lib.hid (HY4.out.next hb5)
      have HB5 := Lib.hid (HB4.out.trans (Below.mono hb5 HB4.out.size))
      clear hb5 HM HM' HR3 HX3 HY3 HB3 HR4 HX4 HY4 HB4
      by_cases z1 : r2 = 0
      · by_cases z2 : q2 = 0
        · subst z1
          subst z2
          have hi1 : (w.heap.size + 1 + 1) < w5.heap.size := HY5.out.lt
          go_upto_region 7 with fail
          refine wp_region_lit ?_
          refine wpList_load_row rfl 35 _ rfl (w.heap.size + 1 + 1) rfl 35 ds (0, 0) _ HY5.out Tryz.underlying35 rfl (by rw [HDS.out]; kernel_rfl) ?_
          refine Great.wpList_allocTo rfl _ rfl (.pointer (some ⟨w5.heap.size, 0, none⟩)) (.cells (ver0.arr (.slice none 0 0)) 35) (by kernel_rfl) ?_
          refine wpList_store_rowTo rfl 35 _ _ rfl rfl w5.heap.size ds rfl rfl 35 (ver0.arr (.slice none 0 0)) (BxC.new w5 _ _) (by rw [HDS.out]; kernel_rfl) (by rw [HDS.out]; rfl) HDO.out ?_
          have HP6 := Lib.hid (box_row w5 (ver0.arr (.slice none 0 0)) ds 35)
          have hb6 := box_below w5 (ver0.arr (.slice none 0 0)) ds 35
          obtain ⟨W6, hW6⟩ : ∃ W6, (w5.alloc (.cells (ver0.arr (.slice none 0 0)) 35)).setRow w5.heap.size ds = W6 := ⟨_, rfl⟩
          rw [hW6] at HP6 hb6 ⊢
          clear hW6
          have HR6 := Lib.hid (HR5.out.next hb6)
          have HX6 := Lib.hid (HX5.out.next hb6)
          have HY6 := Lib.hid (HY5.out.next hb6)
          have HB6 := Lib.hid (HB5.out.trans (Below.mono hb6 HB5.out.size))
          clear hb6 HR5 HX5 HY5 HB5
          obtain ⟨g, hg⟩ : ∃ g, w5.heap.size = g := ⟨_, rfl⟩
          rw [hg] at HP6 hi1 ⊢
          have a16 : W6.cell? ⟨w.heap.size + 1, 16, none⟩ = some (.string v.sc) := (HX6.out.cell 16).trans (by rw [← HVA.out]; rfl)
          have a17 : W6.cell? ⟨w.heap.size + 1, 17, none⟩ = some (.string v.sr) := (HX6.out.cell 17).trans (by rw [← HVA.out]; rfl)
          have p16 := HP6.out.free 16
          have y16 : W6.cell? ⟨g, 16, none⟩ = some (.string u.sc) := (HP6.out.cell 16).trans (by rw [← HUA.out]; rfl)
          have p17 := (HP6.out.set (k := 16) (.string v.sc)).free 17
          have y17 : (W6.setCell ⟨g, 16, none⟩ (.string v.sc)).cell? ⟨g, 17, none⟩ = some (.string u.sr) := ((HP6.out.set (k := 16) (.string v.sc)).cell 17).trans (by rw [← HUA.out]; rfl)
          obtain ⟨xs, hxs⟩ : ∃ xs, (u.sigged v.sc v.sr).arr (.slice A' n' c') = xs := ⟨_, rfl⟩
          have HP7 := Lib.hid (show BxC ((W6.setCell ⟨g, 16, none⟩ (.string v.sc)).setCell ⟨g, 17, none⟩ (.string v.sr)) g xs 35 from by
            have := (HP6.out.set (k := 16) (.string v.sc)).set (k := 17) (.string v.sr)
            rw [← HUA.out] at this
            rw [← hxs]
            exact this)
          have HXS := Lib.hid (show xs.size = 18 from by rw [← hxs]; rfl)
          have HR7 := Lib.hid ((HR6.out.other (C := g) (k := 16) (by omega) (.string v.sc)).other (C := g) (k := 17) (by omega) (.string v.sr))
          have HX7 := Lib.hid ((HX6.out.other (C := g) (k := 16) (by omega) (.string v.sc)).other (C := g) (k := 17) (by omega) (.string v.sr))
          have HB7 := Lib.hid ((HB6.out.setCell (p := ⟨g, 16, none⟩) (by simp only []; omega) (.string v.sc)).setCell (p := ⟨g, 17, none⟩) (by simp only []; omega) (.string v.sr))
          have HSM := Lib.hid (show ∀ W, Below w.heap.size w W → Calls Tryz.prog 8 #[.agg cs, .agg xs] W (Ret (.bool (sameV v (u.sigged v.sc v.sr))) W) from fun W hb => by
            rw [← HVA.out, ← hxs]
            exact r58_SameG v (u.sigged v.sc v.sr) A A' n c n' c' W (HSL.out.kept hb (Nat.le_refl _)) (HSL'.out.kept hb (Nat.le_refl _)) (by omega) (by omega))
          have hst := HEQ.out (by trivial) (by trivial)
          rw [← hst] at HSM
          try dsimp only at HSM hst
          have HC1 := Lib.hid (show ∀ W, Below w.heap.size w W → Calls Tryz.prog 9 #[.agg #[.string M, .string O, .string G, .string Y], .agg cs] W (Ret (.int .i64 (ckV M O G Y v)) W) from fun W hb => by
            rw [← HVA.out]
            exact ky_Check M O G Y v A n c W (HSL.out.kept hb (Nat.le_refl _)) hn HZ.out (by omega) (by omega) (by omega) (by omega) (by omega) (by omega))
          have HC2 := Lib.hid (show ∀ W, Below w.heap.size w W → Calls Tryz.prog 9 #[.agg #[.string M, .string O, .string G, .string Y], .agg xs] W (Ret (.int .i64 (ckV M O G Y (u.sigged v.sc v.sr))) W) from fun W hb => by
            rw [← hxs]
            exact ky_Check M O G Y (u.sigged v.sc v.sr) A' n' c' W (HSL'.out.kept hb (Nat.le_refl _)) hn' (sigged_sz HZ'.out HZ.out) (by omega) (by omega) (by omega) (by omega) (show v.sc.size ≤ 1000 by omega) (show v.sr.size ≤ 1000 by omega))
          clear hn hn' nv nu zc zr hM hO hG hY hxs HEQ
          go_upto_region 9 with fail
          obtain ⟨W7, hW7⟩ : ∃ W7, (W6.setCell ⟨g, 16, none⟩ (.string v.sc)).setCell ⟨g, 17, none⟩ (.string v.sr) = W7 := ⟨_, rfl⟩
          rw [hW7] at HP7 HR7 HX7 HB7 ⊢
          clear hW7 a16 a17 p16 p17 y16 y17 HP6 HR6 HX6 HY6 HB6
          cases hs2 : (r1.toList == q1.toList) with
          | false =>
            rw [hs2] at HSM
            clear hst HC1 HC2
            refine wp_region_lit ?_
            iterate 9 go_step
            refine wpList_load_row rfl 35 _ rfl (w.heap.size + 1) rfl 35 cs (0, 0) _ HX7.out Tryz.underlying35 rfl (by rw [HCS.out]; kernel_rfl) ?_
            refine wpList_load_row rfl 35 _ rfl g rfl 35 xs (0, 0) _ HP7.out Tryz.underlying35 rfl (by rw [HXS.out]; kernel_rfl) ?_
            go_wp2_with fail
            refine (HSM.out W7 HB7.out).mono ?_
            rintro e w8 ⟨rfl, hb8⟩
            have HR8 := Lib.hid (HR7.out.next hb8)
            have HX8 := Lib.hid (HX7.out.next hb8)
            have HP8 := Lib.hid (HP7.out.next hb8)
            have HB8 := Lib.hid (HB7.out.trans (hb8.mono HB7.out.size))
            clear hb8 HR7 HX7 HP7 HB7 HSM
            go_wp2
            obtain ⟨wd, hwd⟩ : ∃ wd, w8.drew = wd := ⟨_, rfl⟩
            have hdd : Below w8.heap.size w8 wd := by rw [← hwd]; exact (Below.refl _ _).drew
            have HRD := Lib.hid (HR8.out.next hdd)
            have HXD := Lib.hid (HX8.out.next hdd)
            have HPD := Lib.hid (HP8.out.next hdd)
            have HBD := Lib.hid (HB8.out.trans (hdd.mono HB8.out.size))
            clear hdd HR8 HX8 HP8 HB8
            have c0 : wd.cell? ⟨w.heap.size, 0, none⟩ = some (.string M) := HRD.out.cell 0
            have c1 : wd.cell? ⟨w.heap.size, 1, none⟩ = some (.string O) := HRD.out.cell 1
            have c2 : wd.cell? ⟨w.heap.size, 2, none⟩ = some (.string G) := HRD.out.cell 2
            have c3 : wd.cell? ⟨w.heap.size, 3, none⟩ = some (.string Y) := HRD.out.cell 3
            refine wp_region_K 18 (Below (wd).heap.size (wd)) (by kernel_rfl) ?_
            intro hD
            rw [hwd]
            refine rO 0 17 rfl hD ?_; clear hD; intro K0 hK0
            go_wp2_with fail
            refine (law_awake _).mono ?_
            rintro ev w9 ⟨rfl, hb⟩
            have HB0 := Lib.hid hb
            clear hb
            go_wp2
            refine hK0 _ _ (by exact HB0.out) ?_; clear hK0; intro hS_11_0 hD
            refine rP 1 52 16 rfl hD hS_11_0 ?_; clear hD; intro hD; simp only [Act.put, sqA, sqB, sqC]
            refine rP 2 53 15 rfl hD hS_11_0 ?_; clear hD; intro hD; simp only [Act.put, sqA, sqB, sqC]
            refine rP 3 54 14 rfl hD hS_11_0 ?_; clear hD; intro hD; simp only [Act.put, sqA, sqB, sqC]
            refine rP 4 55 13 rfl hD hS_11_0 ?_; clear hD; intro hD; simp only [Act.put, sqA, sqB, sqC]
            refine rP 5 56 12 rfl hD hS_11_0 ?_; clear hD; intro hD; simp only [Act.put, sqA, sqB, sqC]
            refine rU 6 57 11 rfl hD hS_11_0 ?_; clear hD; intro hD; simp only [Act.put, sqA, sqB, sqC]
            refine rU 7 58 10 rfl hD hS_11_0 ?_; clear hD; intro hD; simp only [Act.put, sqA, sqB, sqC]
            refine rU 8 59 9 rfl hD hS_11_0 ?_; clear hD; intro hD; simp only [Act.put, sqA, sqB, sqC]
            refine rU 9 60 8 rfl hD hS_11_0 ?_; clear hD; intro hD; simp only [Act.put, sqA, sqB, sqC]
            refine rU 10 61 7 rfl hD hS_11_0 ?_; clear hD; intro hD; simp only [Act.put, sqA, sqB, sqC]
            refine rU 11 62 6 rfl hD hS_11_0 ?_; clear hD; intro hD; simp only [Act.put, sqA, sqB, sqC]
            refine rU 12 63 5 rfl hD hS_11_0 ?_; clear hD; intro hD; simp only [Act.put, sqA, sqB, sqC]
            refine rU 13 64 4 rfl hD hS_11_0 ?_; clear hD; intro hD; simp only [Act.put, sqA, sqB, sqC]
            refine rU 14 65 3 rfl hD hS_11_0 ?_; clear hD; intro hD; simp only [Act.put, sqA, sqB, sqC]
            refine rP 15 66 2 rfl hD hS_11_0 ?_; clear hD; intro hD; simp only [Act.put, sqA, sqB, sqC]
            refine rP 16 67 1 rfl hD hS_11_0 ?_; clear hD; intro hD; simp only [Act.put, sqA, sqB, sqC]
            refine rO 17 0 rfl hD ?_; clear hD; intro K17 hK17
            go_wp2
            refine hK17 _ _ (by exact hS_11_0) ?_; clear hK17; intro hS_11_17 hD
            have HL := Lib.hid hS_11_17
            refine wpAnyK_done (by kernel_rfl) ?_ 0
            clear hD
            go_wp2
            go_ret
            exact ⟨rfl, HBD.out.trans (HL.out.mono HBD.out.size)⟩
          | true =>
            rw [hs2] at HSM hst
            have hvu := (sameV_iff v (u.sigged v.sc v.sr)).1 hst.symm
            rw [← hvu] at HC2
            obtain ⟨ck, hck⟩ : ∃ ck, ckV M O G Y v = ck := ⟨_, rfl⟩
            rw [hck] at HC1 HC2
            have hcc : (ck == ck) = true := beq_self_eq_true ck
            clear hst hvu hck
            refine wp_region_lit ?_
            iterate 9 go_step
            refine wpList_load_row rfl 35 _ rfl (w.heap.size + 1) rfl 35 cs (0, 0) _ HX7.out Tryz.underlying35 rfl (by rw [HCS.out]; kernel_rfl) ?_
            refine wpList_load_row rfl 35 _ rfl g rfl 35 xs (0, 0) _ HP7.out Tryz.underlying35 rfl (by rw [HXS.out]; kernel_rfl) ?_
            go_wp2_with fail
            refine (HSM.out W7 HB7.out).mono ?_
            rintro e w8 ⟨rfl, hb8⟩
            have HR8 := Lib.hid (HR7.out.next hb8)
            have HX8 := Lib.hid (HX7.out.next hb8)
            have HP8 := Lib.hid (HP7.out.next hb8)
            have HB8 := Lib.hid (HB7.out.trans (hb8.mono HB7.out.size))
            clear hb8 HR7 HX7 HP7 HB7 HSM
            go_wp2
            obtain ⟨wd, hwd⟩ : ∃ wd, w8.drew = wd := ⟨_, rfl⟩
            have hdd : Below w8.heap.size w8 wd := by rw [← hwd]; exact (Below.refl _ _).drew
            have HRD := Lib.hid (HR8.out.next hdd)
            have HXD := Lib.hid (HX8.out.next hdd)
            have HPD := Lib.hid (HP8.out.next hdd)
            have HBD := Lib.hid (HB8.out.trans (hdd.mono HB8.out.size))
            clear hdd HR8 HX8 HP8 HB8
            have c0 : wd.cell? ⟨w.heap.size, 0, none⟩ = some (.string M) := HRD.out.cell 0
            have c1 : wd.cell? ⟨w.heap.size, 1, none⟩ = some (.string O) := HRD.out.cell 1
            have c2 : wd.cell? ⟨w.heap.size, 2, none⟩ = some (.string G) := HRD.out.cell 2
            have c3 : wd.cell? ⟨w.heap.size, 3, none⟩ = some (.string Y) := HRD.out.cell 3
            refine wp_region_K 18 (Below (wd).heap.size (wd)) (by kernel_rfl) ?_
            intro hD
            rw [hwd]
            have KK2 := Lib.hid (fun w' (hS' : (Below (wd).heap.size (wd)) w') => And.intro (kC hS' c0) (And.intro (kC hS' c1) (And.intro (kC hS' c2) (kC hS' c3))))
            refine rO 0 17 rfl hD ?_; clear hD; intro K0 hK0
            go_wp2_with fail
            refine (law_awake _).mono ?_
            rintro ev w9 ⟨rfl, hb⟩
            have HB0 := Lib.hid hb
            clear hb
            go_wp2
            refine hK0 _ _ (by exact HB0.out) ?_; clear hK0; intro hS_11_0 hD
            refine rP 1 52 16 rfl hD hS_11_0 ?_; clear hD; intro hD; simp only [Act.put, sqA, sqB, sqC]
            refine rP 2 53 15 rfl hD hS_11_0 ?_; clear hD; intro hD; simp only [Act.put, sqA, sqB, sqC]
            refine rP 3 54 14 rfl hD hS_11_0 ?_; clear hD; intro hD; simp only [Act.put, sqA, sqB, sqC]
            refine rP 4 55 13 rfl hD hS_11_0 ?_; clear hD; intro hD; simp only [Act.put, sqA, sqB, sqC]
            refine rP 5 56 12 rfl hD hS_11_0 ?_; clear hD; intro hD; simp only [Act.put, sqA, sqB, sqC]
            refine rP 6 57 11 rfl hD hS_11_0 ?_; clear hD; intro hD; simp only [Act.put, sqA, sqB, sqC]
            refine rT 7 58 10 rfl hD hS_11_0 (by intro w' hS'; obtain ⟨e0, e1, e2, e3⟩ := KK2.out w' hS'; go_simp; with_reducible rfl) ?_; clear hD; intro hD; simp only [Act.put, sqA, sqB, sqC]
            refine wpAnyK_takeSD (i := 8) (d := some 59) (v := (.agg cs)) (fuel := 9) rfl (by kernel_rfl) (by kernel_rfl) (by kernel_rfl) (fun _ _ _ h => h) hD hS_11_0 (.inl ⟨by kernel_rfl, ?y11_8b2⟩) ?n11_8b2
            case y11_8b2 =>
              intro w' hS'
              exact load_rowR 35 _ rfl (w.heap.size + 1) rfl 35 cs (0, 0) _ (HXD.out.next hS') Tryz.underlying35 rfl (by rw [HCS.out]; kernel_rfl)
            clear hD; intro hD
            simp only [Act.put, sqA, sqB, sqC]
            refine rP 10 61 8 rfl hD hS_11_0 ?_; clear hD; intro hD; simp only [Act.put, sqA, sqB, sqC]
            refine rT 11 62 7 rfl hD hS_11_0 (by intro w' hS'; obtain ⟨e0, e1, e2, e3⟩ := KK2.out w' hS'; go_simp; with_reducible rfl) ?_; clear hD; intro hD; simp only [Act.put, sqA, sqB, sqC]
            refine wpAnyK_takeSD (i := 12) (d := some 63) (v := (.agg xs)) (fuel := 6) rfl (by kernel_rfl) (by kernel_rfl) (by kernel_rfl) (fun _ _ _ h => h) hD hS_11_0 (.inl ⟨by kernel_rfl, ?y11_12b2⟩) ?n11_12b2
            case y11_12b2 =>
              intro w' hS'
              exact load_rowR 35 _ rfl g rfl 35 xs (0, 0) _ (HPD.out.next hS') Tryz.underlying35 rfl (by rw [HXS.out]; kernel_rfl)
            clear hD; intro hD
            simp only [Act.put, sqA, sqB, sqC]
            refine rO 9 5 rfl hD ?_; clear hD; intro K9 hK9
            go_wp2_with fail
            refine (HC1.out _ (HBD.out.trans (Below.mono hS_11_0 HBD.out.size))).mono ?_
            rintro ev w10 ⟨rfl, hb⟩
            have HB9 := Lib.hid hb
            clear hb
            go_wp2
            refine hK9 _ _ (by exact Below.trans hS_11_0 (Below.mono HB9.out (Below.size hS_11_0))) ?_; clear hK9; intro hS_11_9 hD
            refine rO 13 4 rfl hD ?_; clear hD; intro K13 hK13
            go_wp2_with fail
            refine (HC2.out _ (HBD.out.trans (Below.mono hS_11_9 HBD.out.size))).mono ?_
            rintro ev w11 ⟨rfl, hb⟩
            have HB13 := Lib.hid hb
            clear hb
            go_wp2
            refine hK13 _ _ (by exact Below.trans hS_11_9 (Below.mono HB13.out (Below.size hS_11_9))) ?_; clear hK13; intro hS_11_13 hD
            refine rP 14 65 3 rfl hD hS_11_13 ?_; clear hD; intro hD; simp only [Act.put, sqA, sqB, sqC]
            refine rP 15 66 2 rfl hD hS_11_13 ?_; clear hD; intro hD; simp only [Act.put, sqA, sqB, sqC]
            refine rP 16 67 1 rfl hD hS_11_13 ?_; clear hD; intro hD; simp only [Act.put, sqA, sqB, sqC]
            refine rO 17 0 rfl hD ?_; clear hD; intro K17 hK17
            go_wp2
            refine hK17 _ _ (by exact hS_11_13) ?_; clear hK17; intro hS_11_17 hD
            have HL := Lib.hid hS_11_17
            refine wpAnyK_done (by kernel_rfl) ?_ 0
            clear hD
            go_wp2
            go_ret
            exact ⟨rfl, HBD.out.trans (HL.out.mono HBD.out.size)⟩
        · have hne : (q2 != 0) = true := by simp [z2]
          subst z1
          go_wp2_with fail
          refine (law_awake _).mono ?_
          rintro e wa ⟨rfl, hba⟩
          have HBA := Lib.hid (HB5.out.trans (hba.mono HB5.out.size))
          clear hba
          go_wp2
          go_ret
          exact ⟨rfl, HBA.out⟩
      · have hne : (r2 != 0) = true := by simp [z1]
        go_wp2_with fail
        refine (law_awake _).mono ?_
        rintro e wa ⟨rfl, hba⟩
        have HBA := Lib.hid (HB5.out.trans (hba.mono HB5.out.size))
        clear hba
        go_wp2
        go_ret
        exact ⟨rfl, HBA.out⟩
end Go.Proofs.YtecmmdealjhdpaaGreat

/- The plain law of joining deltas. -/
import Derived.Test.YtelhpdlegjgjjaaEpI
set_option linter.unusedVariables false
set_option linter.unusedSimpArgs false
namespace Go.Proofs.Ytelhpdlegjgjjaa

theorem toList_inj {a b : ByteArray} (h : a.toList = b.toList) : a = b := by
  rw [ByteArray.toList_eq, ByteArray.toList_eq] at h
  rw [← bstr_of a, ← bstr_of b, h]
theorem memB_iff {l : List ByteArray} {x : ByteArray} : memB l x = true ↔ x ∈ l := by
  unfold memB
  rw [List.any_eq_true]
  constructor
  · rintro ⟨y, hy, h⟩
    rw [toList_inj (beq_iff_eq.1 h)]; exact hy
  · intro h; exact ⟨x, h, by simp⟩
theorem memB_no {l : List ByteArray} {x : ByteArray} : memB l x = false ↔ x ∉ l := by
  rw [← memB_iff]; simp
/-- Merged by the reference. -/
def mrg (na nb : ByteArray → Bool) : List ByteArray → List ByteArray → List ByteArray
  | [], [] => []
  | [], y :: ys => if nb y then mrg na nb [] ys else y :: mrg na nb [] ys
  | x :: xs, [] => if na x then mrg na nb xs [] else x :: mrg na nb xs []
  | x :: xs, y :: ys => if num x < num y then (if na x then mrg na nb xs (y :: ys) else x :: mrg na nb xs (y :: ys)) else (if nb y then mrg na nb (x :: xs) ys else y :: mrg na nb (x :: xs) ys)
termination_by a b => a.length + b.length
/-- Numbers ascend. -/
def Asc (l : List ByteArray) : Prop := l.Pairwise (fun a b => num a < num b)
theorem asc_of {l : List ByteArray} (h : ascB l = true) : Asc l := by
  have h1 := ascB_iff.1 h
  have h2 : ∀ (n i : Nat) a b, l[i]? = some a → l[i + n + 1]? = some b → num a < num b := by
    intro n
    induction n with
    | zero => intro i a b ha hb; exact h1 i a b ha hb
    | succ n ih =>
      intro i a b ha hb
      have hlt := (List.getElem?_eq_some_iff.1 hb).1
      obtain ⟨c, hc⟩ : ∃ c, l[i + n + 1]? = some c := ⟨_, List.getElem?_eq_getElem (by omega)⟩
      have := ih i a c ha hc
      have := h1 (i + n + 1) c b hc hb
      omega
  refine List.pairwise_iff_getElem.2 (fun i j hi hj hij => ?_)
  refine h2 (j - i - 1) i _ _ (List.getElem?_eq_getElem hi) ?_
  rw [show i + (j - i - 1) + 1 = j by omega]
  exact List.getElem?_eq_getElem hj
theorem asc_sorted {K l : List ByteArray} (h : SortedK K l) : Asc l := by
  refine List.pairwise_iff_getElem.2 (fun i j hi hj hij => ?_)
  exact h.2.1 i j _ _ hij (List.getElem?_eq_getElem hi) (List.getElem?_eq_getElem hj)
theorem Asc.filter {l : List ByteArray} (h : Asc l) (p : ByteArray → Bool) : Asc (l.filter p) := List.Pairwise.filter p h
theorem Asc.nodup {l : List ByteArray} (h : Asc l) : l.Nodup := List.Pairwise.imp (fun {a b} hlt e => by subst e; exact Nat.lt_irrefl _ hlt) h
/-- Two ascending lists with the same members are one. -/
theorem Asc.unique {l l' : List ByteArray} (h : Asc l) (h' : Asc l') (hm : ∀ x, x ∈ l ↔ x ∈ l') : l = l' := by
  have hp : l.Perm l' := (List.perm_ext_iff_of_nodup h.nodup h'.nodup).2 hm
  exact List.Perm.eq_of_pairwise (le := fun a b => num a < num b) (fun a b _ _ h1 h2 => by omega) h h' hp
theorem mem_mrg (na nb : ByteArray → Bool) (a b : List ByteArray) (x : ByteArray) : x ∈ mrg na nb a b ↔ (x ∈ a ∧ na x = false) ∨ (x ∈ b ∧ nb x = false) := by
  fun_induction mrg na nb a b with
  | case1 => simp
  | case2 y ys h ih => rw [ih]; simp only [List.mem_cons, List.not_mem_nil, false_and, false_or]; constructor
                       · rintro ⟨h1, h2⟩; exact ⟨.inr h1, h2⟩
                       · rintro ⟨rfl | h1, h2⟩
                         · rw [h] at h2; cases h2
                         · exact ⟨h1, h2⟩
  | case3 y ys h ih => rw [List.mem_cons, ih]; simp only [List.mem_cons, List.not_mem_nil, false_and, false_or]; constructor
                       · rintro (rfl | ⟨h1, h2⟩)
                         · exact ⟨.inl rfl, by simpa using h⟩
                         · exact ⟨.inr h1, h2⟩
                       · rintro ⟨rfl | h1, h2⟩
                         · exact .inl rfl
                         · exact .inr ⟨h1, h2⟩
  | case4 y ys h ih => rw [ih]; simp only [List.mem_cons, List.not_mem_nil, false_and, or_false]; constructor
                       · rintro ⟨h1, h2⟩; exact ⟨.inr h1, h2⟩
                       · rintro ⟨rfl | h1, h2⟩
                         · rw [h] at h2; cases h2
                         · exact ⟨h1, h2⟩
  | case5 y ys h ih => rw [List.mem_cons, ih]; simp only [List.mem_cons, List.not_mem_nil, false_and, or_false]; constructor
                       · rintro (rfl | ⟨h1, h2⟩)
                         · exact ⟨.inl rfl, by simpa using h⟩
                         · exact ⟨.inr h1, h2⟩
                       · rintro ⟨rfl | h1, h2⟩
                         · exact .inl rfl
                         · exact .inr ⟨h1, h2⟩
  | case6 z zs y ys hlt h ih => rw [ih]; simp only [List.mem_cons]; constructor
                                · rintro (⟨h1, h2⟩ | h1)
                                  · exact .inl ⟨.inr h1, h2⟩
                                  · exact .inr h1
                                · rintro (⟨rfl | h1, h2⟩ | h1)
                                  · rw [h] at h2; cases h2
                                  · exact .inl ⟨h1, h2⟩
                                  · exact .inr h1
  | case7 z zs y ys hlt h ih => rw [List.mem_cons, ih]; simp only [List.mem_cons]; constructor
                                · rintro (rfl | ⟨h1, h2⟩ | h1)
                                  · exact .inl ⟨.inl rfl, by simpa using h⟩
                                  · exact .inl ⟨.inr h1, h2⟩
                                  · exact .inr h1
                                · rintro (⟨rfl | h1, h2⟩ | h1)
                                  · exact .inl rfl
                                  · exact .inr (.inl ⟨h1, h2⟩)
                                  · exact .inr (.inr h1)
  | case8 z zs y ys hlt h ih => rw [ih]; simp only [List.mem_cons]; constructor
                                · rintro (h1 | ⟨h1, h2⟩)
                                  · exact .inl h1
                                  · exact .inr ⟨.inr h1, h2⟩
                                · rintro (h1 | ⟨rfl | h1, h2⟩)
                                  · exact .inl h1
                                  · rw [h] at h2; cases h2
                                  · exact .inr ⟨h1, h2⟩
  | case9 z zs y ys hlt h ih => rw [List.mem_cons, ih]; simp only [List.mem_cons]; constructor
                                · rintro (rfl | h1 | ⟨h1, h2⟩)
                                  · exact .inr ⟨.inl rfl, by simpa using h⟩
                                  · exact .inl h1
                                  · exact .inr ⟨.inr h1, h2⟩
                                · rintro (h1 | ⟨rfl | h1, h2⟩)
                                  · exact .inr (.inl h1)
                                  · exact .inl rfl
                                  · exact .inr (.inr ⟨h1, h2⟩)
/-- Two ascending lists without a common member are merged to an ascending one. -/
theorem asc_mrg (na nb : ByteArray → Bool) (a b : List ByteArray) (ha : Asc a) (hb : Asc b) (hne : ∀ x ∈ a, ∀ y ∈ b, num x ≠ num y) : Asc (mrg na nb a b) := by
  fun_induction mrg na nb a b with
  | case1 => exact List.Pairwise.nil
  | case2 y ys h ih => exact ih ha (List.pairwise_cons.1 hb).2 (fun x hx => by cases hx)
  | case3 y ys h ih =>
    refine List.pairwise_cons.2 ⟨fun z hz => ?_, ih ha (List.pairwise_cons.1 hb).2 (fun x hx => by cases hx)⟩
    rw [mem_mrg] at hz
    rcases hz with ⟨hz, _⟩ | ⟨hz, _⟩
    · cases hz
    · exact (List.pairwise_cons.1 hb).1 z hz
  | case4 y ys h ih => exact ih (List.pairwise_cons.1 ha).2 hb (fun x hx y hy => by cases hy)
  | case5 y ys h ih =>
    refine List.pairwise_cons.2 ⟨fun z hz => ?_, ih (List.pairwise_cons.1 ha).2 hb (fun x hx y hy => by cases hy)⟩
    rw [mem_mrg] at hz
    rcases hz with ⟨hz, _⟩ | ⟨hz, _⟩
    · exact (List.pairwise_cons.1 ha).1 z hz
    · cases hz
  | case6 x xs y ys hlt h ih => exact ih (List.pairwise_cons.1 ha).2 hb (fun u hu => hne u (List.mem_cons_of_mem _ hu))
  | case7 x xs y ys hlt h ih =>
    refine List.pairwise_cons.2 ⟨fun z hz => ?_, ih (List.pairwise_cons.1 ha).2 hb (fun u hu => hne u (List.mem_cons_of_mem _ hu))⟩
    rw [mem_mrg] at hz
    rcases hz with ⟨hz, _⟩ | ⟨hz, _⟩
    · exact (List.pairwise_cons.1 ha).1 z hz
    · rcases List.mem_cons.1 hz with rfl | hz
      · exact hlt
      · have := (List.pairwise_cons.1 hb).1 z hz; omega
  | case8 x xs y ys hlt h ih => exact ih ha (List.pairwise_cons.1 hb).2 (fun u hu v hv => hne u hu v (List.mem_cons_of_mem _ hv))
  | case9 x xs y ys hlt h ih =>
    refine List.pairwise_cons.2 ⟨fun z hz => ?_, ih ha (List.pairwise_cons.1 hb).2 (fun u hu v hv => hne u hu v (List.mem_cons_of_mem _ hv))⟩
    have hxy := hne x List.mem_cons_self y List.mem_cons_self
    rw [mem_mrg] at hz
    rcases hz with ⟨hz, _⟩ | ⟨hz, _⟩
    · rcases List.mem_cons.1 hz with rfl | hz
      · omega
      · have := (List.pairwise_cons.1 ha).1 z hz; omega
    · exact (List.pairwise_cons.1 hb).1 z hz

/-- What remains of a number: 1 if it is added, -1 if it is removed. -/
def ind (l : List ByteArray) (x : ByteArray) : Int := if memB l x = true then 1 else 0
def chg (a b : Dl) (x : ByteArray) : Int := ind a.ad x - ind a.rm x + ind b.ad x - ind b.rm x
def Dl.zero : Dl := ⟨0, 0, [], [], ⟨#[]⟩, ⟨#[]⟩, ⟨#[]⟩, ⟨#[]⟩⟩
def clash (a b : Dl) : Bool := a.ad.any (memB b.ad) || a.rm.any (memB b.rm)
/-- The joined delta, or an error. -/
def jn (a b : Dl) : Dl × Int :=
  if a.msg.2 ≠ 0 then (Dl.zero, a.msg.2) else if b.msg.2 ≠ 0 then (Dl.zero, b.msg.2) else if a.to ≠ b.fr then (Dl.zero, 21) else if a.af ≠ b.be then (Dl.zero, 1)
  else if clash a b = true then (Dl.zero, 8)
  else (⟨a.fr, b.to, mrg (memB b.rm) (memB a.rm) a.ad b.ad, mrg (memB b.ad) (memB a.ad) a.rm b.rm, a.be, b.af, ⟨#[]⟩, ⟨#[]⟩⟩, 0)
theorem Dl.msg_ok {d : Dl} (h : d.msg.2 = 0) : d.form = 0 := by
  unfold Dl.msg at h
  by_cases h0 : d.form = 0
  · exact h0
  · rw [if_neg h0] at h; exact absurd h h0
structure Dl.Good (d : Dl) : Prop where
  vad : ∀ y ∈ d.ad, nvalid y = true
  vrm : ∀ y ∈ d.rm, nvalid y = true
  aad : Asc d.ad
  arm : Asc d.rm
  dis : ∀ x ∈ d.ad, x ∉ d.rm
theorem Dl.good {d : Dl} (h : d.form = 0) : d.Good := by
  obtain ⟨hv, _, ht, _⟩ := d.form_ok h
  unfold Dl.twice at ht
  simp only [Bool.or_eq_false_iff, Bool.not_eq_false'] at ht
  refine ⟨d.okN_ad hv, d.okN_rm hv, asc_of ht.1.1, asc_of ht.1.2, fun x hx hr => ?_⟩
  have := List.any_eq_false.1 ht.2 x hx
  rw [memB_iff] at this
  exact this hr
theorem ind_in {l : List ByteArray} {x : ByteArray} (h : x ∈ l) : ind l x = 1 := if_pos (memB_iff.2 h)
theorem ind_out {l : List ByteArray} {x : ByteArray} (h : x ∉ l) : ind l x = 0 := if_neg (fun h' => h (memB_iff.1 h'))
theorem ind_cases (l : List ByteArray) (x : ByteArray) : (x ∈ l ∧ ind l x = 1) ∨ (x ∉ l ∧ ind l x = 0) := by
  by_cases h : x ∈ l
  · exact .inl ⟨h, ind_in h⟩
  · exact .inr ⟨h, ind_out h⟩
/-- A number comes twice just where a sum is 2 or -2. -/
theorem clash_iff {a b : Dl} (ha : a.Good) (hb : b.Good) : clash a b = true ↔ ∃ x, x ∈ a.ad ++ a.rm ++ b.ad ++ b.rm ∧ (chg a b x = 2 ∨ chg a b x = -2) := by
  unfold clash
  rw [Bool.or_eq_true, List.any_eq_true, List.any_eq_true]
  constructor
  · rintro (⟨x, hx, h⟩ | ⟨x, hx, h⟩) <;> rw [memB_iff] at h
    · refine ⟨x, by simp [hx], .inl ?_⟩
      unfold chg
      rw [ind_in hx, ind_out (ha.dis x hx), ind_in h, ind_out (hb.dis x h)]; rfl
    · refine ⟨x, by simp [hx], .inr ?_⟩
      unfold chg
      rw [ind_in hx, ind_out (fun h' => ha.dis x h' hx), ind_in h, ind_out (fun h' => hb.dis x h' h)]; rfl
  · rintro ⟨x, _, h⟩
    unfold chg at h
    rcases ind_cases a.ad x with ⟨h1, e1⟩ | ⟨h1, e1⟩ <;> rcases ind_cases a.rm x with ⟨h2, e2⟩ | ⟨h2, e2⟩ <;> rcases ind_cases b.ad x with ⟨h3, e3⟩ | ⟨h3, e3⟩ <;> rcases ind_cases b.rm x with ⟨h4, e4⟩ | ⟨h4, e4⟩ <;> rw [e1, e2, e3, e4] at h <;>
      first
      | (exfalso; omega)
      | exact .inl ⟨x, h1, memB_iff.2 h3⟩
      | exact .inr ⟨x, h2, memB_iff.2 h4⟩
/-- What the sums say is what the reference merges. -/
theorem jn_lists {a b : Dl} (ha : a.Good) (hb : b.Good) (hc : clash a b = false) {K l : List ByteArray} (hK : ∀ s, s ∈ K ↔ s ∈ a.ad ++ a.rm ++ b.ad ++ b.rm) (hl : SortedK K l) :
    l.filter (fun x => decide (chg a b x = 1)) = mrg (memB b.rm) (memB a.rm) a.ad b.ad ∧ l.filter (fun x => decide (chg a b x = -1)) = mrg (memB b.ad) (memB a.ad) a.rm b.rm := by
  unfold clash at hc
  rw [Bool.or_eq_false_iff] at hc
  have c1 : ∀ x ∈ a.ad, x ∉ b.ad := fun x hx h => List.any_eq_false.1 hc.1 x hx (memB_iff.2 h)
  have c2 : ∀ x ∈ a.rm, x ∉ b.rm := fun x hx h => List.any_eq_false.1 hc.2 x hx (memB_iff.2 h)
  have hmem : ∀ x, x ∈ l ↔ x ∈ a.ad ++ a.rm ++ b.ad ++ b.rm := fun x => (hl.2.2 x).trans (hK x)
  constructor
  · refine Asc.unique ((asc_sorted hl).filter _) (asc_mrg _ _ _ _ ha.aad hb.aad (fun x hx y hy e => ?_)) (fun x => ?_)
    · have := num_inj (ha.vad x hx) (hb.vad y hy) e
      subst this
      exact c1 x hx hy
    · rw [List.mem_filter, hmem, mem_mrg, memB_no, memB_no, decide_eq_true_eq]
      simp only [List.mem_append]
      unfold chg
      have d1 := ha.dis x
      have d2 := hb.dis x
      have d3 := c1 x
      have d4 := c2 x
      rcases ind_cases a.ad x with ⟨h1, e1⟩ | ⟨h1, e1⟩ <;> rcases ind_cases a.rm x with ⟨h2, e2⟩ | ⟨h2, e2⟩ <;> rcases ind_cases b.ad x with ⟨h3, e3⟩ | ⟨h3, e3⟩ <;> rcases ind_cases b.rm x with ⟨h4, e4⟩ | ⟨h4, e4⟩ <;> rw [e1, e2, e3, e4] <;> simp_all
  · refine Asc.unique ((asc_sorted hl).filter _) (asc_mrg _ _ _ _ ha.arm hb.arm (fun x hx y hy e => ?_)) (fun x => ?_)
    · have := num_inj (ha.vrm x hx) (hb.vrm y hy) e
      subst this
      exact c2 x hx hy
    · rw [List.mem_filter, hmem, mem_mrg, memB_no, memB_no, decide_eq_true_eq]
      simp only [List.mem_append]
      unfold chg
      have d1 := ha.dis x
      have d2 := hb.dis x
      have d3 := c1 x
      have d4 := c2 x
      rcases ind_cases a.ad x with ⟨h1, e1⟩ | ⟨h1, e1⟩ <;> rcases ind_cases a.rm x with ⟨h2, e2⟩ | ⟨h2, e2⟩ <;> rcases ind_cases b.ad x with ⟨h3, e3⟩ | ⟨h3, e3⟩ <;> rcases ind_cases b.rm x with ⟨h4, e4⟩ | ⟨h4, e4⟩ <;> rw [e1, e2, e3, e4] <;> simp_all
end Go.Proofs.Ytelhpdlegjgjjaa

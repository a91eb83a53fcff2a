/- Joining is associative: the plain law. -/
import Derived.Test.YtelhpdlegjgjjaaEpXc
set_option linter.unusedVariables false
set_option linter.unusedSimpArgs false
namespace Go.Proofs.Ytelhpdlegjgjjaa
open Go.RowKit

/-- What a delta does to a number: 1, -1 or 0. -/
def ev (d : Dl) (x : ByteArray) : Int := ind d.ad x - ind d.rm x
def evs : List Dl → ByteArray → Int
  | [], _ => 0
  | y :: l, x => ev y x + evs l x
theorem ev_ad {d : Dl} (h : d.Good) (x : ByteArray) : x ∈ d.ad ↔ ev d x = 1 := by
  have h1 := h.dis x
  unfold ev
  rcases ind_cases d.ad x with ⟨a, e⟩ | ⟨a, e⟩ <;> rcases ind_cases d.rm x with ⟨b, f⟩ | ⟨b, f⟩ <;> rw [e, f] <;> simp_all
theorem ev_rm {d : Dl} (h : d.Good) (x : ByteArray) : x ∈ d.rm ↔ ev d x = -1 := by
  have h1 := h.dis x
  unfold ev
  rcases ind_cases d.ad x with ⟨a, e⟩ | ⟨a, e⟩ <;> rcases ind_cases d.rm x with ⟨b, f⟩ | ⟨b, f⟩ <;> rw [e, f] <;> simp_all
theorem ev_le {d : Dl} (h : d.Good) (x : ByteArray) : ev d x = 1 ∨ ev d x = 0 ∨ ev d x = -1 := by
  have h1 := h.dis x
  unfold ev
  rcases ind_cases d.ad x with ⟨a, e⟩ | ⟨a, e⟩ <;> rcases ind_cases d.rm x with ⟨b, f⟩ | ⟨b, f⟩ <;> rw [e, f] <;> simp_all
theorem ascB_of {l : List ByteArray} (h : Asc l) : ascB l = true := by
  rw [ascB_iff]
  intro k a b ha hb
  obtain ⟨h1, rfl⟩ := List.getElem?_eq_some_iff.1 ha
  obtain ⟨h2, rfl⟩ := List.getElem?_eq_some_iff.1 hb
  exact List.pairwise_iff_getElem.1 h k (k + 1) h1 h2 (by omega)
/-- Joined deltas are well formed; what they do adds up. -/
theorem jn_form {a b D : Dl} (ha : a.form = 0) (hb : b.form = 0) (h : jn a b = (D, 0)) : D.form = 0 ∧ ∀ x, ev D x = ev a x + ev b x := by
  obtain ⟨hD, _, _, hto, haf, hc⟩ := jn_ok (a := a) (b := b) (by rw [h])
  rw [h] at hD
  simp only at hD
  have ga := Dl.good ha
  have gb := Dl.good hb
  have hcl := hc
  unfold clash at hc
  rw [Bool.or_eq_false_iff] at hc
  have c1 : ∀ x ∈ a.ad, x ∉ b.ad := fun x hx h => List.any_eq_false.1 hc.1 x hx (memB_iff.2 h)
  have c2 : ∀ x ∈ a.rm, x ∉ b.rm := fun x hx h => List.any_eq_false.1 hc.2 x hx (memB_iff.2 h)
  obtain ⟨oa, ra, ta, la⟩ := a.form_ok ha
  obtain ⟨ob, rb, tb, lb⟩ := b.form_ok hb
  have had : ∀ x, x ∈ D.ad ↔ (x ∈ a.ad ∧ x ∉ b.rm) ∨ (x ∈ b.ad ∧ x ∉ a.rm) := fun x => by rw [hD]; simp only [mem_mrg, memB_no]
  have hrm : ∀ x, x ∈ D.rm ↔ (x ∈ a.rm ∧ x ∉ b.ad) ∨ (x ∈ b.rm ∧ x ∉ a.ad) := fun x => by rw [hD]; simp only [mem_mrg, memB_no]
  have hdis : ∀ x ∈ D.ad, x ∉ D.rm := by
    intro x h1 h2
    rw [had] at h1
    rw [hrm] at h2
    have d1 := ga.dis x
    have d2 := gb.dis x
    have d3 := c1 x
    have d4 := c2 x
    rcases h1 with ⟨p, q⟩ | ⟨p, q⟩ <;> rcases h2 with ⟨r, s⟩ | ⟨r, s⟩
    · exact d1 p r
    · exact s p
    · exact s p
    · exact d2 p r
  constructor
  · refine Dl.form_0 (Dl.okN_all fun i y hy => ?_) ?_ (Dl.twice_no ?_ ?_ ?_) (Dl.low_no fun i y hi hy => ?_)
    · have hm := List.mem_of_getElem? hy
      simp only [List.mem_append, List.mem_cons, List.mem_nil_iff, or_false, had, hrm] at hm
      rcases hm with ((⟨p, _⟩ | ⟨p, _⟩) | (⟨p, _⟩ | ⟨p, _⟩)) | rfl | rfl
      · exact ga.vad y p
      · exact gb.vad y p
      · exact ga.vrm y p
      · exact gb.vrm y p
      · rw [hD]; exact a.okN_mem oa (by simp)
      · rw [hD]; exact b.okN_mem ob (by simp)
    · rw [hD]
      unfold Dl.rng at ra rb ⊢
      simp only
      omega
    · rw [hD]
      refine ascB_of (asc_mrg _ _ _ _ ga.aad gb.aad (fun x hx y hy e => ?_))
      have := num_inj (ga.vad x hx) (gb.vad y hy) e
      subst this
      exact c1 x hx hy
    · rw [hD]
      refine ascB_of (asc_mrg _ _ _ _ ga.arm gb.arm (fun x hx y hy e => ?_))
      have := num_inj (ga.vrm x hx) (gb.vrm y hy) e
      subst this
      exact c2 x hx hy
    · rw [List.any_eq_false]
      intro x hx h
      exact hdis x hx (memB_iff.1 h)
    · have hm : y ∈ D.ad ++ D.rm := by
        rw [List.getElem?_append_left (by rw [List.length_append]; omega)] at hy
        exact List.mem_of_getElem? hy
      have hla : ∀ y ∈ a.ad ++ a.rm, ¬ num y < 3 := fun y hy h => by
        have := List.any_eq_false.1 (show (a.ad ++ a.rm).any (fun x => decide (num x < 3)) = false from la) y hy
        exact this (decide_eq_true h)
      have hlb : ∀ y ∈ b.ad ++ b.rm, ¬ num y < 3 := fun y hy h => by
        have := List.any_eq_false.1 (show (b.ad ++ b.rm).any (fun x => decide (num x < 3)) = false from lb) y hy
        exact this (decide_eq_true h)
      simp only [List.mem_append, had, hrm] at hm
      rcases hm with ((⟨p, _⟩ | ⟨p, _⟩) | (⟨p, _⟩ | ⟨p, _⟩))
      · exact hla y (by simp [p])
      · exact hlb y (by simp [p])
      · exact hla y (by simp [p])
      · exact hlb y (by simp [p])
  · intro x
    have d1 := ga.dis x
    have d2 := gb.dis x
    have d3 := c1 x
    have d4 := c2 x
    have d5 := had x
    have d6 := hrm x
    clear h hD hcl hc c1 c2 oa ra ta la ob rb tb lb had hrm hdis ga gb ha hb hto haf
    unfold ev
    rcases ind_cases D.ad x with ⟨h5, e5⟩ | ⟨h5, e5⟩ <;> rcases ind_cases D.rm x with ⟨h6, e6⟩ | ⟨h6, e6⟩ <;> rcases ind_cases a.ad x with ⟨h1, e1⟩ | ⟨h1, e1⟩ <;> rcases ind_cases a.rm x with ⟨h2, e2⟩ | ⟨h2, e2⟩ <;> rcases ind_cases b.ad x with ⟨h3, e3⟩ | ⟨h3, e3⟩ <;> rcases ind_cases b.rm x with ⟨h4, e4⟩ | ⟨h4, e4⟩ <;> rw [e1, e2, e3, e4, e5, e6] <;>
      first
      | rfl
      | (exfalso; simp_all; done)
      | (exfalso; clear e1 e2 e3 e4 e5 e6; grind)
/-- A delta is small. -/
structure Sm (k : Nat) (d : Dl) : Prop where
  la : d.ad.length ≤ k
  lr : d.rm.length ≤ k
  sz : ∀ y ∈ d.ad ++ d.rm ++ [d.be, d.af], y.size ≤ 16
theorem jn_sm {a b D : Dl} {j k : Nat} (ha : Sm j a) (hb : Sm k b) (h : jn a b = (D, 0)) : Sm (j + k) D := by
  obtain ⟨hD, _⟩ := jn_ok (a := a) (b := b) (by rw [h])
  have hl := jn_len (a := a) (b := b)
  rw [h] at hD hl
  simp only at hD hl
  refine ⟨by have := ha.la; have := hb.la; omega, by have := ha.lr; have := hb.lr; omega, fun y hy => ?_⟩
  rw [hD] at hy
  simp only [List.mem_append, List.mem_cons, List.mem_nil_iff, or_false, mem_mrg] at hy
  rcases hy with ((⟨p, _⟩ | ⟨p, _⟩) | (⟨p, _⟩ | ⟨p, _⟩)) | rfl | rfl
  · exact ha.sz y (by simp [p])
  · exact hb.sz y (by simp [p])
  · exact ha.sz y (by simp [p])
  · exact hb.sz y (by simp [p])
  · exact ha.sz _ (by simp)
  · exact hb.sz _ (by simp)
def lastTo : Int → List Dl → Int
  | t, [] => t
  | _, y :: l => lastTo y.to l
def lastAf : ByteArray → List Dl → ByteArray
  | t, [] => t
  | _, y :: l => lastAf y.af l
structure Fold (d : Dl) (l : List Dl) (D : Dl) (k : Nat) : Prop where
  form : D.form = 0
  ev : ∀ x, ev D x = ev d x + evs l x
  fr : D.fr = d.fr
  be : D.be = d.be
  too : D.to = lastTo d.to l
  af : D.af = lastAf d.af l
  sc : D.sc = ⟨#[]⟩
  sr : D.sr = ⟨#[]⟩
  sm : Sm (k + 20 * l.length) D
theorem fold_ok : ∀ (l : List Dl) (d D : Dl) (k : Nat), foldJ d l = (D, 0) → d.form = 0 → d.sc = ⟨#[]⟩ → d.sr = ⟨#[]⟩ → Sm k d → (∀ y ∈ l, Sm 20 y) → Fold d l D k
  | [], d, D, k, h, hf, h1, h2, hs, _ => by
    cases h
    exact ⟨hf, fun x => by unfold evs; omega, rfl, rfl, rfl, rfl, h1, h2, hs⟩
  | y :: l, d, D, k, h, hf, h1, h2, hs, hall => by
    unfold foldJ at h
    by_cases he : (jn d y).2 = 0
    · rw [if_pos he] at h
      obtain ⟨E, hE⟩ : ∃ E, jn d y = (E, 0) := ⟨_, Prod.ext rfl he⟩
      obtain ⟨hD, hm1, hm2, hto, haf, _⟩ := jn_ok he
      rw [hE] at h hD
      simp only at h hD
      obtain ⟨q1, q2⟩ := jn_form hf (Dl.msg_ok hm2) hE
      have q3 := jn_sm hs (hall y (by simp)) hE
      have q := fold_ok l E D (k + 20) h q1 (by rw [hD]) (by rw [hD]) q3 (fun z hz => hall z (by simp [hz]))
      refine ⟨q.form, fun x => by rw [q.ev, q2]; show _ = ev d x + (ev y x + evs l x); omega, by rw [q.fr, hD], by rw [q.be, hD], by rw [q.too, hD]; rfl, by rw [q.af, hD]; rfl, q.sc, q.sr, ?_⟩
      have := q.sm
      rwa [show k + 20 + 20 * l.length = k + 20 * (y :: l).length from by rw [List.length_cons]; omega] at this
    · rw [if_neg he] at h
      exact absurd (congrArg Prod.snd h) he
theorem foldJ_append (d : Dl) : ∀ (l m : List Dl) (D : Dl), foldJ d l = (D, 0) → foldJ d (l ++ m) = foldJ D m := by
  intro l
  induction l generalizing d with
  | nil => intro m D h; cases h; rfl
  | cons y l ih =>
    intro m D h
    rw [List.cons_append]
    have e1 : foldJ d (y :: (l ++ m)) = (if (jn d y).2 = 0 then foldJ (jn d y).1 (l ++ m) else (Dl.zero, (jn d y).2)) := rfl
    have e2 : foldJ d (y :: l) = (if (jn d y).2 = 0 then foldJ (jn d y).1 l else (Dl.zero, (jn d y).2)) := rfl
    rw [e2] at h
    rw [e1]
    by_cases he : (jn d y).2 = 0
    · rw [if_pos he] at h ⊢
      exact ih _ m D h
    · rw [if_neg he] at h
      exact absurd (congrArg Prod.snd h) he
theorem fold_first {d y : Dl} {l : List Dl} {D : Dl} (h : foldJ d (y :: l) = (D, 0)) : (jn d y).2 = 0 := by
  unfold foldJ at h
  by_cases he : (jn d y).2 = 0
  · exact he
  · rw [if_neg he] at h
    exact absurd (congrArg Prod.snd h) he
theorem bt_fold {l : List Dl} {F T : Nat} {D : Dl} (hFT : F < T) (hT : T ≤ l.length) (h : bt l F T = (D, 0)) : btF ((l.drop F).take (T - F)) = (D, 0) ∧ (T = F + 1 → D.msg.2 = 0) := by
  rw [bt_eq hFT hT] at h
  by_cases hc : T = F + 1 ∧ (btF ((l.drop F).take (T - F))).1.msg.2 ≠ 0
  · rw [if_pos hc] at h
    exact absurd (congrArg Prod.snd h) hc.2
  · rw [if_neg hc] at h
    refine ⟨h, fun h1 => ?_⟩
    rw [h] at hc
    simp only [ne_eq, h1, true_and, Decidable.not_not] at hc
    exact hc
/-- Few and small numbers have an encoding. -/
theorem sm_msg {d : Dl} (hf : d.form = 0) (hs : Sm 240 d) : d.msg.2 = 0 := by
  obtain ⟨hv, hr, _⟩ := d.form_ok hf
  have e0 : (⟨#[]⟩ : ByteArray).size = 0 := rfl
  have e1 : (⟨#[100, 101, 108, 116, 97]⟩ : ByteArray).size = 5 := rfl
  have h1 : d.fr.toNat ≤ 4096 := by unfold Dl.rng at hr; omega
  have h2 : d.to.toNat ≤ 4096 := by unfold Dl.rng at hr; omega
  have n1 : (encN d.fr.toNat).length ≤ 8 := encN_length_le.2 (by omega)
  have n2 : (encN d.to.toNat).length ≤ 8 := encN_length_le.2 (by omega)
  have hw : ∀ l : List ByteArray, (∀ s ∈ l, s.size ≤ 16) → Its.weight (l.map natIt) ≤ l.length * 27 := by
    intro l
    induction l with
    | nil => intro _; simp [Its.weight]
    | cons a l ih =>
      intro h
      have h1 := ih (fun s hs => h s (List.mem_cons_of_mem _ hs))
      have h2 := h a List.mem_cons_self
      simp only [List.map_cons, Its.weight, natIt, It.weight, List.length_cons] at h1 ⊢
      omega
  have hvl : ∀ l : List ByteArray, (∀ s ∈ l, nvalid s = true) → Its.valid (l.map natIt) = true := by
    intro l
    induction l with
    | nil => intro _; rfl
    | cons a l ih =>
      intro h
      have h1 := ih (fun s hs => h s (List.mem_cons_of_mem _ hs))
      have h2 := h a List.mem_cons_self
      simp [Its.valid, natIt, It.valid, h1, h2, e0]
  have hdl : ∀ l : List ByteArray, Its.depth (l.map natIt) = 0 := by
    intro l
    induction l with
    | nil => rfl
    | cons a l ih => simp [Its.depth, natIt, It.depth]; exact ih
  have w1 := hw d.ad (fun s h => hs.sz s (by simp [h]))
  have w2 := hw d.rm (fun s h => hs.sz s (by simp [h]))
  have w3 := hs.sz d.be (by simp)
  have w4 := hs.sz d.af (by simp)
  have v1 := hvl d.ad (d.okN_ad hv)
  have v2 := hvl d.rm (d.okN_rm hv)
  have v3 := d.okN_mem hv (y := d.be) (by simp)
  have v4 := d.okN_mem hv (y := d.af) (by simp)
  have v5 : nvalid (bstr (encN d.fr.toNat)) = true := (nvalid_nS (n := d.fr.toNat)).2 (Nat.lt_of_le_of_lt h1 (by decide))
  have v6 : nvalid (bstr (encN d.to.toNat)) = true := (nvalid_nS (n := d.to.toNat)).2 (Nat.lt_of_le_of_lt h2 (by decide))
  have d1 := hdl d.ad
  have d2 := hdl d.rm
  have l1 := hs.la
  have l2 := hs.lr
  have hwt : d.it.weight ≤ 65536 := by
    generalize hq : List.map natIt d.ad = q at *
    generalize hq' : List.map natIt d.rm = q' at *
    simp only [Dl.it, lstI, txt, hq, hq', It.weight, Its.weight]
    simp only [natIt, It.weight, Its.weight, bstr_size, e0, e1]
    omega
  have hb := Nat.le_trans (It.bytes_le d.it) hwt
  have hva : d.it.valid = true := by
    generalize hq : List.map natIt d.ad = q at *
    generalize hq' : List.map natIt d.rm = q' at *
    simp [Dl.it, lstI, txt, natIt, hq, hq', It.valid, Its.valid, e0, v1, v2, v3, v4, v5, v6]
  have hde : d.it.depth ≤ 32 := by
    generalize hq : List.map natIt d.ad = q at *
    generalize hq' : List.map natIt d.rm = q' at *
    simp [Dl.it, lstI, txt, natIt, hq, hq', It.depth, Its.depth, d1, d2]
  unfold Dl.msg encS
  rw [if_pos hf, hva, if_neg (by decide), if_neg (by omega), if_neg (by omega)]
theorem few_sm {d : Dl} (h : FewD d) : Sm 20 d := ⟨h.ad.1, h.rm.1, fun y hy => by
  simp only [List.mem_append, List.mem_cons, List.mem_nil_iff, or_false] at hy
  rcases hy with (p | p) | rfl | rfl
  · exact h.ad.2 y p
  · exact h.rm.2 y p
  · exact h.xs.2 _ (by simp)
  · exact h.xs.2 _ (by simp)⟩
theorem sm_szl {d : Dl} {k : Nat} (h : Sm k d) (h1 : d.sc = ⟨#[]⟩) (h2 : d.sr = ⟨#[]⟩) : SzL d.str := by
  intro s hs
  have e0 : (⟨#[]⟩ : ByteArray).size = 0 := rfl
  simp only [Dl.str, List.mem_append, List.mem_cons, List.mem_nil_iff, or_false, h1, h2] at hs
  rcases hs with (p | p) | rfl | rfl | rfl | rfl
  · have := h.sz s (by simp [p]); omega
  · have := h.sz s (by simp [p]); omega
  · have := h.sz d.be (by simp); omega
  · have := h.sz d.af (by simp); omega
  · decide
  · decide
/-- The two parts of a log join to the whole. -/
theorem assoc_plain {l : List Dl} {s : Nat} {D1 D2 D3 : Dl} (hn : l.length ≤ 12) (h0 : 0 < s) (hs : s < l.length) (hf : ∀ d ∈ l, FewD d) (h1 : bt l (0 : Nat) s = (D1, 0)) (h2 : bt l s l.length = (D2, 0)) (h3 : bt l (0 : Nat) l.length = (D3, 0)) : jn D1 D2 = (D3, 0) ∧ (Sm 240 D1 ∧ SzL D1.str) ∧ (Sm 240 D2 ∧ SzL D2.str) := by
  obtain ⟨k1, m1⟩ := bt_fold h0 (by omega) h1
  obtain ⟨k2, m2⟩ := bt_fold hs (Nat.le_refl _) h2
  obtain ⟨k3, _⟩ := bt_fold (by omega) (Nat.le_refl _) h3
  rw [List.drop_zero, Nat.sub_zero] at k1 k3
  rw [List.take_of_length_le (Nat.le_refl _)] at k3
  rw [List.take_of_length_le (by rw [List.length_drop]; exact Nat.le_refl _)] at k2
  obtain ⟨a, xs, hx⟩ : ∃ a xs, l.take s = a :: xs := by
    cases hh : l.take s with
    | nil => have := congrArg List.length hh; rw [List.length_take, List.length_nil] at this; omega
    | cons a xs => exact ⟨a, xs, rfl⟩
  obtain ⟨b, ys, hy⟩ : ∃ b ys, l.drop s = b :: ys := by
    cases hh : l.drop s with
    | nil => have := congrArg List.length hh; rw [List.length_drop, List.length_nil] at this; omega
    | cons a xs => exact ⟨a, xs, rfl⟩
  have hl : l = a :: (xs ++ b :: ys) := by rw [← List.cons_append, ← hx, ← hy, List.take_append_drop]
  rw [hx] at k1
  rw [hy] at k2
  rw [hl] at k3
  simp only [btF] at k1 k2 k3
  have hsm : ∀ y ∈ a :: (xs ++ b :: ys), Sm 20 y := fun y hy => few_sm (hf y (by rw [hl]; exact hy))
  have hlen : xs.length + ys.length + 2 ≤ 12 := by rw [hl] at hn; simp only [List.length_cons, List.length_append] at hn; omega
  have k4 := k3
  rw [foldJ_append _ _ _ _ k1] at k4
  have j1 := fold_first k4
  obtain ⟨_, mD1, mb, hto, haf, _⟩ := jn_ok j1
  have fa : a.strip.form = 0 := by
    cases xs with
    | nil => cases k1; exact Dl.msg_ok mD1
    | cons z zs => exact Dl.msg_ok (jn_ok (fold_first k1)).2.1
  have fb : b.strip.form = 0 := show b.form = 0 from Dl.msg_ok mb
  have smst : ∀ d : Dl, Sm 20 d → Sm 20 d.strip := fun d h => ⟨h.la, h.lr, h.sz⟩
  have q1 := fold_ok xs a.strip D1 20 k1 fa rfl rfl (smst a (hsm a (by simp))) (fun y hy => hsm y (by simp [hy]))
  have q2 := fold_ok ys b.strip D2 20 k2 fb rfl rfl (smst b (hsm b (by simp))) (fun y hy => hsm y (by simp [hy]))
  have q3 := fold_ok (b :: ys) D1 D3 (20 + 20 * xs.length) k4 q1.form q1.sc q1.sr q1.sm (fun y hy => hsm y (by
    rcases List.mem_cons.1 hy with rfl | hy
    · simp
    · simp [hy]))
  have s1 : Sm 240 D1 := ⟨by have := q1.sm.la; omega, by have := q1.sm.lr; omega, q1.sm.sz⟩
  have s2 : Sm 240 D2 := ⟨by have := q2.sm.la; omega, by have := q2.sm.lr; omega, q2.sm.sz⟩
  refine ⟨?_, ⟨s1, sm_szl s1 q1.sc q1.sr⟩, s2, sm_szl s2 q2.sc q2.sr⟩
  have mD2 : D2.msg.2 = 0 := sm_msg q2.form s2
  have hev : ∀ x, ev D3 x = ev D1 x + ev D2 x := fun x => by
    rw [q3.ev, q2.ev]
    show ev D1 x + (ev b x + evs ys x) = ev D1 x + (ev b x + evs ys x)
    rfl
  have g1 := Dl.good q1.form
  have g2 := Dl.good q2.form
  have g3 := Dl.good q3.form
  have hcl : clash D1 D2 = false := by
    cases hc : clash D1 D2 with
    | false => rfl
    | true =>
      obtain ⟨x, _, hx⟩ := (clash_iff g1 g2).1 hc
      have e : chg D1 D2 x = ev D3 x := by rw [hev]; unfold chg ev; omega
      have := ev_le g3 x
      omega
  have hto2 : D1.to = D2.fr := by rw [q2.fr]; exact hto
  have haf2 : D1.af = D2.be := by rw [q2.be]; exact haf
  have hj : jn D1 D2 = (⟨D1.fr, D2.to, mrg (memB D2.rm) (memB D1.rm) D1.ad D2.ad, mrg (memB D2.ad) (memB D1.ad) D1.rm D2.rm, D1.be, D2.af, ⟨#[]⟩, ⟨#[]⟩⟩, 0) := by
    unfold jn
    rw [if_neg (by simpa using mD1), if_neg (by simpa using mD2), if_neg (by simpa using hto2), if_neg (by simpa using haf2), if_neg (by rw [hcl]; decide)]
  obtain ⟨r1, r2⟩ := jn_form q1.form q2.form hj
  have g4 := Dl.good r1
  have e1 : mrg (memB D2.rm) (memB D1.rm) D1.ad D2.ad = D3.ad := Asc.unique g4.aad g3.aad (fun x => (ev_ad g4 x).trans (by rw [r2, ← hev]; exact (ev_ad g3 x).symm))
  have e2 : mrg (memB D2.ad) (memB D1.ad) D1.rm D2.rm = D3.rm := Asc.unique g4.arm g3.arm (fun x => (ev_rm g4 x).trans (by rw [r2, ← hev]; exact (ev_rm g3 x).symm))
  rw [hj, e1, e2]
  have e3 : D2.to = D3.to := by rw [q2.too, q3.too]; rfl
  have e4 : D2.af = D3.af := by rw [q2.af, q3.af]; rfl
  rw [e3, e4, ← q3.fr, ← q3.be, ← q3.sc]
  obtain ⟨f1, f2, f3, f4, f5, f6, f7, f8⟩ := D3
  have := q3.sr
  have h7 := q3.sc
  simp only at this h7
  rw [this, h7]
end Go.Proofs.Ytelhpdlegjgjjaa

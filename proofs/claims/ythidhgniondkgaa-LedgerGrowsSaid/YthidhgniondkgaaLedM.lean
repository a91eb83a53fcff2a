/- The message of an entry: ledger.Message and dominoref57.Message return msgS. -/
import Derived.Test.YthidhgniondkgaaLedC
import Derived.Test.YthidhgniondkgaaLedD
import Derived.Test.YthidhgniondkgaaLedE
import Derived.Test.YthidhgniondkgaaLedG
import Derived.Test.YthidhgniondkgaaLedH
set_option linter.unusedVariables false
set_option linter.unusedSimpArgs false
namespace Go.Proofs.Ythidhgniondkgaa
open Go.RowKit

theorem size_empty {s : ByteArray} {b : Bool} (h : s.toList.isEmpty = b) : (s.size == 0) = b := by
  by_cases h0 : s.size = 0
  · rw [sempty_true h0] at h; rw [← h, h0]; rfl
  · rw [sempty_false (by omega)] at h; rw [← h]; simp [h0]
theorem name_size {s : ByteArray} (h : nameB s = true) : s.size ≤ 32 := by
  unfold nameB at h
  simp only [Bool.and_eq_true, decide_eq_true_eq] at h
  exact h.1.2
theorem valid_size {s : ByteArray} (h : nvalid s = true) : s.size ≤ 128 := by
  unfold nvalid at h
  simp only [Bool.and_eq_true, decide_eq_true_eq] at h
  exact h.1
theorem empty_size {s : ByteArray} (h : s.toList.isEmpty = true) : s.size = 0 := by
  have := size_empty h
  simpa using this

/-- The cases of an entry. -/
theorem en_cases (motive : En → Prop)
    (g0 : ∀ (q p : Nat) (h s : ByteArray), q = 0 → nvalid h = true → lowB h = false → nameB s = true → p ≤ 4096 → h.size ≤ 128 → s.size ≤ 32 → msgS ⟨q, h, s, p⟩ = encS (itE q h s p) → motive ⟨q, h, s, p⟩)
    (g1 : ∀ (q p : Nat) (h s : ByteArray), q = 1 → nvalid h = true → lowB h = false → s.toList.isEmpty = true → p ≤ 4096 → h.size ≤ 128 → s.size ≤ 32 → msgS ⟨q, h, s, p⟩ = encS (itE q h s p) → motive ⟨q, h, s, p⟩)
    (g2 : ∀ (q p : Nat) (h s : ByteArray), q = 2 → nvalid h = true → h.toList.isEmpty = true → s.toList.isEmpty = true → p ≤ 4096 → h.size ≤ 128 → s.size ≤ 32 → msgS ⟨q, h, s, p⟩ = encS (itE q h s p) → motive ⟨q, h, s, p⟩)
    (r0 : ∀ (q : Nat) (p : Int) (h s : ByteArray), q = 0 → nvalid h = true → lowB h = false → nameB s = true → (p < 0 ∨ 4096 < p) → h.size ≤ 128 → s.size ≤ 32 → msgS ⟨q, h, s, p⟩ = (⟨#[]⟩, 2) → motive ⟨q, h, s, p⟩)
    (r1 : ∀ (q : Nat) (p : Int) (h s : ByteArray), q = 1 → nvalid h = true → lowB h = false → s.toList.isEmpty = true → (p < 0 ∨ 4096 < p) → h.size ≤ 128 → s.size ≤ 32 → msgS ⟨q, h, s, p⟩ = (⟨#[]⟩, 2) → motive ⟨q, h, s, p⟩)
    (r2 : ∀ (q : Nat) (p : Int) (h s : ByteArray), q = 2 → nvalid h = true → h.toList.isEmpty = true → s.toList.isEmpty = true → (p < 0 ∨ 4096 < p) → h.size ≤ 128 → s.size ≤ 32 → msgS ⟨q, h, s, p⟩ = (⟨#[]⟩, 2) → motive ⟨q, h, s, p⟩)
    (bad : ∀ (e : En), (nvalid e.handle = false ∨ nvalid e.handle = true ∧ (e.kind < 0 ∨ 2 < e.kind ∨ (e.kind = 0 ∧ (lowB e.handle = true ∨ lowB e.handle = false ∧ nameB e.schema = false)) ∨
      (e.kind = 1 ∧ (lowB e.handle = true ∨ lowB e.handle = false ∧ e.schema.toList.isEmpty = false)) ∨ (e.kind = 2 ∧ (e.handle.toList.isEmpty = false ∨ e.handle.toList.isEmpty = true ∧ e.schema.toList.isEmpty = false)))) → msgS e = (⟨#[]⟩, 3) → motive e)
    (e : En) : motive e := by
  obtain ⟨q, h, s, p⟩ := e
  have split : ∀ (f : (p < 0 ∨ 4096 < p) → motive ⟨q, h, s, p⟩) (g : ∀ p' : Nat, p = p' → p' ≤ 4096 → motive ⟨q, h, s, p⟩), motive ⟨q, h, s, p⟩ := fun f g => by
    by_cases h1 : p < 0
    · exact f (.inl h1)
    · by_cases h2 : 4096 < p
      · exact f (.inr h2)
      · exact g p.toNat (by omega) (by omega)
  cases hv : nvalid h with
  | false => exact bad _ (.inl hv) (by simp [msgS, formB, hv])
  | true =>
    have hh := valid_size hv
    by_cases k0 : q = 0
    · subst k0
      cases hl : lowB h with
      | true => exact bad _ (.inr ⟨hv, .inr (.inr (.inl ⟨rfl, .inl hl⟩))⟩) (by simp [msgS, formB, hl])
      | false =>
        cases hn : nameB s with
        | false => exact bad _ (.inr ⟨hv, .inr (.inr (.inl ⟨rfl, .inr ⟨hl, hn⟩⟩))⟩) (by simp [msgS, formB, hn])
        | true =>
          have hf : formB ⟨0, h, s, p⟩ = true := by simp [formB, hv, hl, hn]
          have hs := name_size hn
          refine split (fun hp => ?_) (fun p' e hp => ?_)
          · exact r0 0 p h s rfl hv hl hn hp hh hs (by unfold msgS; rw [show formB ⟨((0 : Nat) : Int), h, s, p⟩ = true from hf, if_neg (by simp), if_pos hp])
          · subst e
            exact g0 0 p' h s rfl hv hl hn hp hh hs (by unfold msgS; rw [show formB ⟨((0 : Nat) : Int), h, s, (p' : Int)⟩ = true from hf, if_neg (by simp), if_neg (by simp; omega)]; rfl)
    · by_cases k1 : q = 1
      · subst k1
        cases hl : lowB h with
        | true => exact bad _ (.inr ⟨hv, .inr (.inr (.inr (.inl ⟨rfl, .inl hl⟩)))⟩) (by simp [msgS, formB, hl])
        | false =>
          cases hn : s.toList.isEmpty with
          | false => exact bad _ (.inr ⟨hv, .inr (.inr (.inr (.inl ⟨rfl, .inr ⟨hl, hn⟩⟩)))⟩) (by simp [msgS, formB, size_empty hn])
          | true =>
            have hf : formB ⟨1, h, s, p⟩ = true := by simp [formB, hv, hl, size_empty hn]
            have hs : s.size ≤ 32 := by rw [empty_size hn]; omega
            refine split (fun hp => ?_) (fun p' e hp => ?_)
            · exact r1 1 p h s rfl hv hl hn hp hh hs (by unfold msgS; rw [show formB ⟨((1 : Nat) : Int), h, s, p⟩ = true from hf, if_neg (by simp), if_pos hp])
            · subst e
              exact g1 1 p' h s rfl hv hl hn hp hh hs (by unfold msgS; rw [show formB ⟨((1 : Nat) : Int), h, s, (p' : Int)⟩ = true from hf, if_neg (by simp), if_neg (by simp; omega)]; rfl)
      · by_cases k2 : q = 2
        · subst k2
          cases hl : h.toList.isEmpty with
          | false => exact bad _ (.inr ⟨hv, .inr (.inr (.inr (.inr ⟨rfl, .inl hl⟩)))⟩) (by simp [msgS, formB, size_empty hl])
          | true =>
            cases hn : s.toList.isEmpty with
            | false => exact bad _ (.inr ⟨hv, .inr (.inr (.inr (.inr ⟨rfl, .inr ⟨hl, hn⟩⟩)))⟩) (by simp [msgS, formB, size_empty hn])
            | true =>
              have hf : formB ⟨2, h, s, p⟩ = true := by simp [formB, hv, size_empty hl, size_empty hn]
              have hs : s.size ≤ 32 := by rw [empty_size hn]; omega
              refine split (fun hp => ?_) (fun p' e hp => ?_)
              · exact r2 2 p h s rfl hv hl hn hp hh hs (by unfold msgS; rw [show formB ⟨((2 : Nat) : Int), h, s, p⟩ = true from hf, if_neg (by simp), if_pos hp])
              · subst e
                exact g2 2 p' h s rfl hv hl hn hp hh hs (by unfold msgS; rw [show formB ⟨((2 : Nat) : Int), h, s, (p' : Int)⟩ = true from hf, if_neg (by simp), if_neg (by simp; omega)]; rfl)
        · refine bad _ (.inr ⟨hv, ?_⟩) (by simp [msgS, formB, k0, k1, k2])
          by_cases hq : q < 0
          · exact .inl hq
          · exact .inr (.inl (by show 2 < q; omega))

theorem eqI {a b : Int} (h : a = b) : (a == b) = true := beq_iff_eq.2 h
theorem neI {a b : Int} (h : a ≠ b) : (a == b) = false := beq_eq_false_iff_ne.2 h
theorem bnT {a b : Int} (h : a ≠ b) : (a != b) = true := bne_iff_ne.2 h

theorem led_Message (e : En) (w : World) (hh : e.handle.size ≤ 9223372036854775807) (hs : e.schema.size ≤ 9223372036854775807) : Calls Try.prog 8 #[e.val] w (RetSE (msgS e) w) := by
  revert hh hs
  refine en_cases (fun e => e.handle.size ≤ 9223372036854775807 → e.schema.size ≤ 9223372036854775807 → Calls Try.prog 8 #[e.val] w (RetSE (msgS e) w)) ?_ ?_ ?_ ?_ ?_ ?_ ?_ e
  · intro q p h s k hv hl hn hp hh hs hm _ _
    rw [hm]; exact led_Message_0 q p h s w (eqI (by omega)) hh hs hv hl hn (by omega) hp
  · intro q p h s k hv hl hn hp hh hs hm _ _
    rw [hm]; exact led_Message_1 q p h s w (neI (by omega)) (eqI (by omega)) hh hs hv hl hn (by omega) hp
  · intro q p h s k hv hl hn hp hh hs hm _ _
    rw [hm]; exact led_Message_2 q p h s w (neI (by omega)) (neI (by omega)) (eqI (by omega)) hh hs hv hl hn (by omega) hp
  · intro q p h s k hv hl hn hp hh hs hm _ _
    rw [hm]; exact led_Message_0r q p h s w (eqI (by omega)) hh hs hv hl hn hp
  · intro q p h s k hv hl hn hp hh hs hm _ _
    rw [hm]; exact led_Message_1r q p h s w (neI (by omega)) (eqI (by omega)) hh hs hv hl hn hp
  · intro q p h s k hv hl hn hp hh hs hm _ _
    rw [hm]; exact led_Message_2r q p h s w (neI (by omega)) (neI (by omega)) (eqI (by omega)) hh hs hv hl hn hp
  · rintro ⟨q, h, s, p⟩ hb hm hh hs
    simp only at hb hh hs
    rw [hm]
    by_cases k0 : q = 0
    · rcases hb with hv | ⟨hv, hb⟩
      · exact led_Message_0vb q p h s w hh hs (eqI k0) hv
      · rcases hb with hb | hb | ⟨_, hl | ⟨hl, hn⟩⟩ | ⟨hb, _⟩ | ⟨hb, _⟩
        · omega
        · omega
        · exact led_Message_0lb q p h s w hh hs (eqI k0) hv hl
        · exact led_Message_0nb q p h s w hh hs (eqI k0) hv hl hn
        · omega
        · omega
    · by_cases k1 : q = 1
      · rcases hb with hv | ⟨hv, hb⟩
        · exact led_Message_1vb q p h s w hh hs (neI k0) (eqI k1) hv
        · rcases hb with hb | hb | ⟨hb, _⟩ | ⟨_, hl | ⟨hl, hn⟩⟩ | ⟨hb, _⟩
          · omega
          · omega
          · omega
          · exact led_Message_1lb q p h s w hh hs (neI k0) (eqI k1) hv hl
          · exact led_Message_1nb q p h s w hh hs (neI k0) (eqI k1) hv hl hn
          · omega
      · by_cases k2 : q = 2
        · rcases hb with hv | ⟨hv, hb⟩
          · exact led_Message_2vb q p h s w hh hs (neI k0) (neI k1) (eqI k2) hv
          · rcases hb with hb | hb | ⟨hb, _⟩ | ⟨hb, _⟩ | ⟨_, hl | ⟨hl, hn⟩⟩
            · omega
            · omega
            · omega
            · omega
            · exact led_Message_2hb q p h s w hh hs (neI k0) (neI k1) (eqI k2) hv hl
            · exact led_Message_2sb q p h s w hh hs (neI k0) (neI k1) (eqI k2) hv hl hn
        · rcases hb with hv | ⟨hv, hb⟩
          · exact led_Message_3fb q p h s w hh hs (neI k0) (neI k1) (neI k2) hv
          · exact led_Message_3tb q p h s w hh hs (neI k0) (neI k1) (neI k2) hv

theorem r57_Message (e : En) (w : World) (hh : e.handle.size ≤ 9223372036854775807) (hs : e.schema.size ≤ 9223372036854775807) : Calls Try.prog 9 #[e.val] w (RetSE (msgS e) w) := by
  revert hh hs
  refine en_cases (fun e => e.handle.size ≤ 9223372036854775807 → e.schema.size ≤ 9223372036854775807 → Calls Try.prog 9 #[e.val] w (RetSE (msgS e) w)) ?_ ?_ ?_ ?_ ?_ ?_ ?_ e
  · intro q p h s k hv hl hn hp hh hs hm _ _
    rw [hm]; exact r57_Message_0 q p h s w (eqI (by omega)) (neI (by omega)) (bne_false (by omega)) (bnT (by omega)) ⟨by omega, by omega⟩ hh hs hv hl hn hp
  · intro q p h s k hv hl hn hp hh hs hm _ _
    rw [hm]; exact r57_Message_1 q p h s w (neI (by omega)) (neI (by omega)) (bnT (by omega)) (bnT (by omega)) ⟨by omega, by omega⟩ hh hs hv hl hn hp
  · intro q p h s k hv hl hn hp hh hs hm _ _
    rw [hm]; exact r57_Message_2 q p h s w (neI (by omega)) (eqI (by omega)) (bnT (by omega)) (bne_false (by omega)) ⟨by omega, by omega⟩ hh hs hv hl hn hp
  · intro q p h s k hv hl hn hp hh hs hm _ _
    rw [hm]; exact r57_Message_0r q p h s w (eqI (by omega)) (neI (by omega)) (bne_false (by omega)) (bnT (by omega)) ⟨by omega, by omega⟩ hh hs hv hl hn hp
  · intro q p h s k hv hl hn hp hh hs hm _ _
    rw [hm]; exact r57_Message_1r q p h s w (neI (by omega)) (neI (by omega)) (bnT (by omega)) (bnT (by omega)) ⟨by omega, by omega⟩ hh hs hv hl hn hp
  · intro q p h s k hv hl hn hp hh hs hm _ _
    rw [hm]; exact r57_Message_2r q p h s w (neI (by omega)) (eqI (by omega)) (bnT (by omega)) (bne_false (by omega)) ⟨by omega, by omega⟩ hh hs hv hl hn hp
  · rintro ⟨q, h, s, p⟩ hb hm hh hs
    simp only at hb hh hs
    rw [hm]
    rcases hb with hv | ⟨hv, hb⟩
    · exact r57_Message_vb q p h s w hh hs hv
    · rcases hb with hb | hb | ⟨k, hl | ⟨hl, hn⟩⟩ | ⟨k, hl | ⟨hl, hn⟩⟩ | ⟨k, hl | ⟨hl, hn⟩⟩
      · exact r57_Message_knb q p h s w hh hs hb hv
      · exact r57_Message_kbb q p h s w hh hs (by omega) hb hv
      · exact r57_Message_0lb q p h s w hh hs (eqI k) (neI (by omega)) (bne_false k) (bnT (by omega)) ⟨by omega, by omega⟩ hv hl
      · exact r57_Message_0nb q p h s w hh hs (eqI k) (neI (by omega)) (bne_false k) (bnT (by omega)) ⟨by omega, by omega⟩ hv hl hn
      · exact r57_Message_1lb q p h s w hh hs (neI (by omega)) (neI (by omega)) (bnT (by omega)) (bnT (by omega)) ⟨by omega, by omega⟩ hv hl
      · exact r57_Message_1sb q p h s w hh hs (neI (by omega)) (neI (by omega)) (bnT (by omega)) (bnT (by omega)) ⟨by omega, by omega⟩ hv hl hn
      · exact r57_Message_2hb q p h s w hh hs (neI (by omega)) (eqI k) (bnT (by omega)) (bne_false k) ⟨by omega, by omega⟩ hv hl
      · exact r57_Message_2sb q p h s w hh hs (neI (by omega)) (eqI k) (bnT (by omega)) (bne_false k) ⟨by omega, by omega⟩ hv hl hn
end Go.Proofs.Ythidhgniondkgaa

/- The examples of the chapter: plain facts. -/
import Derived.Test.YtnfkccohmkfnoaaKyU
import Derived.Test.YtnfkccohmkfnoaaNum2
set_option linter.unusedVariables false
set_option linter.unusedSimpArgs false
namespace Go.Proofs.Ytnfkccohmkfnoaa
open Go.RowKit

/-- A version without keys. -/
def mkV (a b c : Int) : Ver := ⟨⟨#[97]⟩, a, ⟨#[97]⟩, ⟨#[]⟩, ⟨#[]⟩, ⟨#[]⟩, ⟨#[]⟩, [], ⟨#[]⟩, ⟨#[]⟩, ⟨#[]⟩, ⟨#[]⟩, ⟨#[]⟩, ⟨#[]⟩, b, c, ⟨#[]⟩, ⟨#[]⟩⟩
def exL : List Ver := [mkV 1 0 9, mkV 2 5 20]
theorem ex_cur4 : bestV (curP ⟨#[97]⟩ 4) exL = some (mkV 1 0 9) := by simp [bestV, exL, stepV, curP, vvalid, mkV]
theorem ex_cur5 : bestV (curP ⟨#[97]⟩ 5) exL = some (mkV 2 5 20) := by simp [bestV, exL, stepV, curP, vvalid, mkV]
theorem ex_cur21 : bestV (curP ⟨#[97]⟩ 21) exL = none := by simp [bestV, exL, stepV, curP, vvalid, mkV]
theorem ex_hit : hitV ⟨#[97]⟩ 1 (mkV 1 0 9) = true := by simp [hitV, mkV]
theorem ex_far : vvalid (mkV 1 0 9) 10 = false := by simp [vvalid, mkV]
theorem ex_none : findV exL ⟨#[97]⟩ 3 = none := by
  refine findV_none fun i u hu => ?_
  have hl := (List.getElem?_eq_some_iff.1 hu).1
  rcases (show i = 0 ∨ i = 1 from by simp [exL] at hl; omega) with rfl | rfl <;> (cases hu; simp [hitV, mkV])
theorem ex_last : lastI exL ⟨#[97]⟩ = some 1 := by simp [lastI, exL, bestI, nameP, mkV]
theorem ex_next : (mkV 0 12 0).next (mkV 2 5 20) = mkV 3 12 4096 := by simp [Ver.next, mkV]
theorem ex_rot : rotL exL 1 (mkV 2 5 20) 14 = [mkV 1 0 9, mkV 2 5 14] := by simp [rotL, exL, mkV, Ver.ended]
theorem nvalid_e : nvalid ⟨#[]⟩ = true := nvalid_nil rfl
theorem ex_okN (a b c : Int) : (mkV a b c).okN = true := by simp [Ver.okN, Ver.nums, Ver.ten, mkV, nvalid_e]
theorem ex_name : knameB ⟨#[97]⟩ = true := by decide
theorem encN_small {n : Nat} (h : n ≤ 4096) : nvalid (bstr (encN n)) = true := by
  have := (nvalid_nS (n := n)).2 (Nat.lt_of_le_of_lt h (by decide))
  exact this
theorem natIt_valid (a : ByteArray) : (natIt a).valid = nvalid a := by
  have e0 : (⟨#[]⟩ : ByteArray).size = 0 := rfl
  simp [natIt, It.valid, e0]
theorem natIts_valid (l : List ByteArray) : Its.valid (l.map natIt) = l.all nvalid := by
  induction l with
  | nil => rfl
  | cons a l ih => rw [List.map_cons, Its.valid, ih, natIt_valid, List.all_cons]
theorem txt_valid (a : ByteArray) : (txt a).valid = true := by
  have e0 : (⟨#[]⟩ : ByteArray).size = 0 := rfl
  simp [txt, It.valid, e0]
theorem lst_valid (l : List It) : (lst l).valid = Its.valid l := by
  have e0 : (⟨#[]⟩ : ByteArray).size = 0 := rfl
  simp [lst, It.valid, e0]
theorem natIt_depth (a : ByteArray) : (natIt a).depth = 0 := by simp [natIt, It.depth]
theorem txt_depth (a : ByteArray) : (txt a).depth = 0 := by simp [txt, It.depth]
theorem lst_depth (l : List It) : (lst l).depth = Its.depth l + 1 := by simp [lst, It.depth]
theorem natIts_depth (l : List ByteArray) : Its.depth (l.map natIt) = 0 := by
  induction l with
  | nil => rfl
  | cons a l ih => rw [List.map_cons, Its.depth, ih, natIt_depth]; rfl
/-- A well-formed version has a message. -/
theorem it_ok {v : Ver} (hok : v.okN = true) (hn : v.kr.length ≤ 100) (hs : v.name.size ≤ 32) (h1 : v.num.toNat ≤ 4096) (h2 : v.fr.toNat ≤ 4096) (h3 : v.to.toNat ≤ 4096) : (encS v.it).2 = 0 := by
  have hall : ∀ s ∈ v.nums, nvalid s = true := fun s h => by unfold Ver.okN at hok; rw [List.all_eq_true] at hok; exact hok s h
  have hw : v.it.weight ≤ 65536 := by
    have g : ∀ s ∈ v.nums, s.size ≤ 128 := fun s h => valid_sz (hall s h)
    have hw := natIt_weight v.kr (fun s h => g s (List.mem_append.2 (.inr h)))
    have g : ∀ s ∈ v.ten, s.size ≤ 128 := fun s h => g s (List.mem_append.2 (.inl h))
    simp only [Ver.ten, List.mem_cons, List.mem_nil_iff, or_false, forall_eq_or_imp, forall_eq] at g
    obtain ⟨g1, g2, g3, g4, g5, g6, g7, g8, g9, g10⟩ := g
    have e0 : (⟨#[]⟩ : ByteArray).size = 0 := rfl
    have e1 : (⟨#[118, 101, 114, 115, 105, 111, 110]⟩ : ByteArray).size = 7 := rfl
    have n1 : (encN v.num.toNat).length ≤ 8 := encN_length_le.2 (by omega)
    have n2 : (encN v.fr.toNat).length ≤ 8 := encN_length_le.2 (by omega)
    have n3 : (encN v.to.toNat).length ≤ 8 := encN_length_le.2 (by omega)
    generalize hq : List.map natIt v.kr = q at *
    simp only [Ver.it, Ver.kit, Ver.sit, lst, txt, hq, It.weight, Its.weight, List.map_cons, List.map_nil]
    simp only [natIt, It.weight, Its.weight, bstr_size, e0, e1]
    omega
  have hb := Nat.le_trans (It.bytes_le v.it) hw
  have hv : v.it.valid = true := by
    have k1 : ∀ s ∈ v.ten, nvalid s = true := fun s h => hall s (List.mem_append.2 (.inl h))
    have k2 : v.kr.all nvalid = true := by rw [List.all_eq_true]; exact fun s h => hall s (List.mem_append.2 (.inr h))
    simp only [Ver.ten, List.mem_cons, List.mem_nil_iff, or_false, forall_eq_or_imp, forall_eq] at k1
    obtain ⟨g1, g2, g3, g4, g5, g6, g7, g8, g9, g10⟩ := k1
    unfold Ver.it Ver.kit Ver.sit
    simp only [lst_valid, Its.valid, txt_valid, natIt_valid, natIts_valid, List.map_cons, List.map_nil, g1, g2, g3, g4, g5, g6, g7, g8, g9, g10, k2, encN_small h1, encN_small h2, encN_small h3, Bool.and_self]
  have hd : v.it.depth ≤ 32 := by
    unfold Ver.it Ver.kit Ver.sit
    simp only [lst_depth, Its.depth, txt_depth, natIt_depth, natIts_depth, List.map_cons, List.map_nil]
    decide
  unfold encS
  rw [hv, if_neg (by decide), if_neg (by omega), if_neg (by omega)]
theorem ex_msg : ((mkV 3 12 4096).msg).2 = 0 := by
  have hok := ex_okN 3 12 4096
  have hfar : ¬ (mkV 3 12 4096).far := by simp [Ver.far, mkV]
  have hkn : (knameB (mkV 3 12 4096).name && decide ((mkV 3 12 4096).kn = (mkV 3 12 4096).name)) = true := by
    rw [show (mkV 3 12 4096).name = ⟨#[97]⟩ from rfl, show (mkV 3 12 4096).kn = ⟨#[97]⟩ from rfl, ex_name]; simp
  unfold Ver.msg
  rw [hok, if_neg (by decide), if_neg (by rw [hkn]; decide), if_neg hfar]
  exact it_ok hok (by simp [mkV]) (by simp [mkV]; decide) (by simp [mkV]) (by simp [mkV]) (by simp [mkV])
end Go.Proofs.Ytnfkccohmkfnoaa

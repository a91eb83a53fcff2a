/- What a ledger's message is; walks: ledger.Message. -/
import Derived.Test.YthidhgniondkgaaLedA
set_option linter.unusedVariables false
set_option linter.unusedSimpArgs false
namespace Go.Proofs.Ythidhgniondkgaa
open Go.RowKit

/-- An entry. -/
structure En where
  kind : Int
  handle : ByteArray
  schema : ByteArray
  epoch : Int
def En.val (e : En) : Value := .agg #[.int .i64 e.kind, .string e.handle, .string e.schema, .int .i64 e.epoch]
/-- Below the number three. -/
def lowB (h : ByteArray) : Bool := decide (ordB h ⟨#[3]⟩ < 0)
/-- The form of an entry. -/
def formB (e : En) : Bool := nvalid e.handle && (if e.kind = 0 then !lowB e.handle && nameB e.schema else if e.kind = 1 then !lowB e.handle && e.schema.size == 0 else if e.kind = 2 then e.handle.size == 0 && e.schema.size == 0 else false)
/-- The item of an entry. -/
abbrev itsE (q : Nat) (h s : ByteArray) (p : Nat) : List It := [.mk 1 ⟨#[]⟩ ⟨#[101, 110, 116, 114, 121]⟩ [], .mk 0 (bstr (encN q)) ⟨#[]⟩ [], .mk 0 h ⟨#[]⟩ [], .mk 1 ⟨#[]⟩ s [], .mk 0 (bstr (encN p)) ⟨#[]⟩ []]
def itE (q : Nat) (h s : ByteArray) (p : Nat) : It := .mk 2 ⟨#[]⟩ ⟨#[]⟩ (itsE q h s p)
/-- What Message returns. -/
def msgS (e : En) : ByteArray × Int := if formB e = false then (⟨#[]⟩, 3) else if e.epoch < 0 ∨ 4096 < e.epoch then (⟨#[]⟩, 2) else encS (itE e.kind.toNat e.handle e.schema e.epoch.toNat)

theorem itE_weight {q p : Nat} {h s : ByteArray} (hq : q ≤ 2) (hp : p ≤ 4096) (hh : h.size ≤ 128) (hs : s.size ≤ 32) : (itE q h s p).weight ≤ 1000000000 := by
  have h1 : (encN q).length ≤ 8 := encN_length_le.2 (by omega)
  have h2 : (encN p).length ≤ 8 := encN_length_le.2 (by omega)
  simp only [itE, It.weight, Its.weight, bstr_size]
  have e1 : (⟨#[]⟩ : ByteArray).size = 0 := rfl
  have e2 : (⟨#[101, 110, 116, 114, 121]⟩ : ByteArray).size = 5 := rfl
  omega

theorem three : bstr (encN 3) = ⟨#[3]⟩ := rfl
theorem low_no {h : ByteArray} (hv : nvalid h = true) (hl : lowB h = false) : ∃ c : Int, ncmp h ⟨#[3]⟩ = c ∧ 0 ≤ c := by
  have h3 : nvalid ⟨#[3]⟩ = true := rfl
  refine ⟨_, rfl, ?_⟩
  simp only [ncmp, hv, h3, Bool.and_self, if_true]
  have := of_decide_eq_false hl
  omega
theorem low_yes {h : ByteArray} (hv : nvalid h = true) (hl : lowB h = true) : ∃ c : Int, ncmp h ⟨#[3]⟩ = c ∧ ¬ 0 ≤ c := by
  have h3 : nvalid ⟨#[3]⟩ = true := rfl
  refine ⟨_, rfl, ?_⟩
  simp only [ncmp, hv, h3, Bool.and_self, if_true]
  have := of_decide_eq_true hl
  omega

/-- Five leaves in a block. -/
theorem row5 {w : World} {T : TypeId} {fr : Nat × Nat} {b : Nat} {k0 k1 k2 k3 k4 : Int} {n0 n1 n2 n3 n4 t0 t1 t2 t3 t4 : ByteArray}
    (hb : w.heap[b]? = some (.cells #[.int .i64 k0, .string n0, .string t0, .slice none 0 0, .int .i64 k1, .string n1, .string t1, .slice none 0 0, .int .i64 k2, .string n2, .string t2, .slice none 0 0, .int .i64 k3, .string n3, .string t3, .slice none 0 0, .int .i64 k4, .string n4, .string t4, .slice none 0 0] T fr)) :
    SlAt w (fun _ => True) (some ⟨b, 0, none⟩) 5 5 [.mk k0 n0 t0 [], .mk k1 n1 t1 [], .mk k2 n2 t2 [], .mk k3 n3 t3 [], .mk k4 n4 t4 []] := by
  have hc := fun k => Lib.cell_of_heap hb (j := k)
  refine ⟨rfl, Nat.le_refl _, by omega, b, 0, fun _ => ⟨rfl, trivial⟩, ?_⟩
  refine ⟨CellsAt.mk' (hc 0) (hc 1) (hc 2) (hc 3) (SlAt.nil _ _), CellsAt.mk' (hc 4) (hc 5) (hc 6) (hc 7) (SlAt.nil _ _), CellsAt.mk' (hc 8) (hc 9) (hc 10) (hc 11) (SlAt.nil _ _), CellsAt.mk' (hc 12) (hc 13) (hc 14) (hc 15) (SlAt.nil _ _), CellsAt.mk' (hc 16) (hc 17) (hc 18) (hc 19) (SlAt.nil _ _), trivial⟩

end Go.Proofs.Ythidhgniondkgaa

/- Walks: encoding's makers: Nat, Text, copied, List; the reference's. -/
import Derived.Test.YtnfkccohmkfnoaaIt
import Derived.Test.YtnfkccohmkfnoaaRows
import Derived.Deep.RegionLaw
import Derived.Deep.AppendLies
set_option linter.unusedVariables false
namespace Go.Proofs.Ytnfkccohmkfnoaa
open Go.RowKit

set_option maxHeartbeats 400000 in
theorem enc_Nat (a : ByteArray) (w : World) : Calls Try.prog 34 #[.string a] w (RetIt (.mk 0 a ⟨#[]⟩ []) w) := by
  go_enter Try.func34, Try.ntmps34
  go_wp2
  exact bodyPost_ret (v := .agg #[.int .i64 0, .string a, .string ⟨#[]⟩, .slice none 0 0]) (by simp [results, Try.results34, go_sem]) rfl ⟨_, rfl, ⟨none, 0, 0, rfl, SlAt.nil _ _⟩, (Below.refl _ _).alloc (Nat.le_refl _) _⟩
set_option maxHeartbeats 400000 in
theorem enc_Text (a : ByteArray) (w : World) : Calls Try.prog 37 #[.string a] w (RetIt (.mk 1 ⟨#[]⟩ a []) w) := by
  go_enter Try.func37, Try.ntmps37
  go_wp2
  exact bodyPost_ret (v := .agg #[.int .i64 1, .string ⟨#[]⟩, .string a, .slice none 0 0]) (by simp [results, Try.results37, go_sem]) rfl ⟨_, rfl, ⟨none, 0, 0, rfl, SlAt.nil _ _⟩, (Below.refl _ _).alloc (Nat.le_refl _) _⟩
set_option maxHeartbeats 400000 in
theorem r08_Nat (a : ByteArray) (w : World) : Calls Try.prog 42 #[.string a] w (RetIt (.mk 0 a ⟨#[]⟩ []) w) := by
  go_enter Try.func42, Try.ntmps42
  go_wp2
  exact bodyPost_ret (v := .agg #[.int .i64 0, .string a, .string ⟨#[]⟩, .slice none 0 0]) (by simp [results, Try.results42, go_sem]) rfl ⟨_, rfl, ⟨none, 0, 0, rfl, SlAt.nil _ _⟩, (Below.refl _ _).alloc (Nat.le_refl _) _⟩
set_option maxHeartbeats 400000 in
theorem r08_Text (a : ByteArray) (w : World) : Calls Try.prog 45 #[.string a] w (RetIt (.mk 1 ⟨#[]⟩ a []) w) := by
  go_enter Try.func45, Try.ntmps45
  go_wp2
  exact bodyPost_ret (v := .agg #[.int .i64 1, .string ⟨#[]⟩, .string a, .slice none 0 0]) (by simp [results, Try.results45, go_sem]) rfl ⟨_, rfl, ⟨none, 0, 0, rfl, SlAt.nil _ _⟩, (Below.refl _ _).alloc (Nat.le_refl _) _⟩
end Go.Proofs.Ytnfkccohmkfnoaa

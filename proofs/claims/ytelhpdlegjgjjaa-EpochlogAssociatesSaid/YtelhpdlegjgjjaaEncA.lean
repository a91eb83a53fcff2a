/- Walks: encoding's makers: Nat, Text, copied, List; the reference's. -/
import Derived.Test.YtelhpdlegjgjjaaIt
import Derived.Test.YtelhpdlegjgjjaaRows
import Derived.Deep.RegionLaw
import Derived.Deep.AppendLies
set_option linter.unusedVariables false
namespace Go.Proofs.Ytelhpdlegjgjjaa
open Go.RowKit

set_option maxHeartbeats 400000 in
theorem enc_Nat (a : ByteArray) (w : World) : Calls Try.prog 21 #[.string a] w (RetIt (.mk 0 a ⟨#[]⟩ []) w) := by
  go_enter Try.func21, Try.ntmps21
  go_wp2
  exact bodyPost_ret (v := .agg #[.int .i64 0, .string a, .string ⟨#[]⟩, .slice none 0 0]) (by simp [results, Try.results21, go_sem]) rfl ⟨_, rfl, ⟨none, 0, 0, rfl, SlAt.nil _ _⟩, (Below.refl _ _).alloc (Nat.le_refl _) _⟩
set_option maxHeartbeats 400000 in
theorem enc_Text (a : ByteArray) (w : World) : Calls Try.prog 25 #[.string a] w (RetIt (.mk 1 ⟨#[]⟩ a []) w) := by
  go_enter Try.func25, Try.ntmps25
  go_wp2
  exact bodyPost_ret (v := .agg #[.int .i64 1, .string ⟨#[]⟩, .string a, .slice none 0 0]) (by simp [results, Try.results25, go_sem]) rfl ⟨_, rfl, ⟨none, 0, 0, rfl, SlAt.nil _ _⟩, (Below.refl _ _).alloc (Nat.le_refl _) _⟩
set_option maxHeartbeats 400000 in
theorem r08_Nat (a : ByteArray) (w : World) : Calls Try.prog 28 #[.string a] w (RetIt (.mk 0 a ⟨#[]⟩ []) w) := by
  go_enter Try.func28, Try.ntmps28
  go_wp2
  exact bodyPost_ret (v := .agg #[.int .i64 0, .string a, .string ⟨#[]⟩, .slice none 0 0]) (by simp [results, Try.results28, go_sem]) rfl ⟨_, rfl, ⟨none, 0, 0, rfl, SlAt.nil _ _⟩, (Below.refl _ _).alloc (Nat.le_refl _) _⟩
set_option maxHeartbeats 400000 in
theorem r08_Text (a : ByteArray) (w : World) : Calls Try.prog 32 #[.string a] w (RetIt (.mk 1 ⟨#[]⟩ a []) w) := by
  go_enter Try.func32, Try.ntmps32
  go_wp2
  exact bodyPost_ret (v := .agg #[.int .i64 1, .string ⟨#[]⟩, .string a, .slice none 0 0]) (by simp [results, Try.results32, go_sem]) rfl ⟨_, rfl, ⟨none, 0, 0, rfl, SlAt.nil _ _⟩, (Below.refl _ _).alloc (Nat.le_refl _) _⟩
end Go.Proofs.Ytelhpdlegjgjjaa

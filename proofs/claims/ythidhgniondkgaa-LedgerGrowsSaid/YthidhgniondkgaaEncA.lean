/- Walks: encoding's makers: Nat, Text, copied, List; the reference's. -/
import Derived.Test.YthidhgniondkgaaIt
import Derived.Test.YthidhgniondkgaaRows
import Derived.Deep.RegionLaw
import Derived.Deep.AppendLies
set_option linter.unusedVariables false
namespace Go.Proofs.Ythidhgniondkgaa
open Go.RowKit

set_option maxHeartbeats 400000 in
theorem enc_Nat (a : ByteArray) (w : World) : Calls Try.prog 28 #[.string a] w (RetIt (.mk 0 a ⟨#[]⟩ []) w) := by
  go_enter Try.func28, Try.ntmps28
  go_wp2
  exact bodyPost_ret (v := .agg #[.int .i64 0, .string a, .string ⟨#[]⟩, .slice none 0 0]) (by simp [results, Try.results28, go_sem]) rfl ⟨_, rfl, ⟨none, 0, 0, rfl, SlAt.nil _ _⟩, (Below.refl _ _).alloc (Nat.le_refl _) _⟩
set_option maxHeartbeats 400000 in
theorem enc_Text (a : ByteArray) (w : World) : Calls Try.prog 26 #[.string a] w (RetIt (.mk 1 ⟨#[]⟩ a []) w) := by
  go_enter Try.func26, Try.ntmps26
  go_wp2
  exact bodyPost_ret (v := .agg #[.int .i64 1, .string ⟨#[]⟩, .string a, .slice none 0 0]) (by simp [results, Try.results26, go_sem]) rfl ⟨_, rfl, ⟨none, 0, 0, rfl, SlAt.nil _ _⟩, (Below.refl _ _).alloc (Nat.le_refl _) _⟩
set_option maxHeartbeats 400000 in
theorem r08_Nat (a : ByteArray) (w : World) : Calls Try.prog 36 #[.string a] w (RetIt (.mk 0 a ⟨#[]⟩ []) w) := by
  go_enter Try.func36, Try.ntmps36
  go_wp2
  exact bodyPost_ret (v := .agg #[.int .i64 0, .string a, .string ⟨#[]⟩, .slice none 0 0]) (by simp [results, Try.results36, go_sem]) rfl ⟨_, rfl, ⟨none, 0, 0, rfl, SlAt.nil _ _⟩, (Below.refl _ _).alloc (Nat.le_refl _) _⟩
set_option maxHeartbeats 400000 in
theorem r08_Text (a : ByteArray) (w : World) : Calls Try.prog 34 #[.string a] w (RetIt (.mk 1 ⟨#[]⟩ a []) w) := by
  go_enter Try.func34, Try.ntmps34
  go_wp2
  exact bodyPost_ret (v := .agg #[.int .i64 1, .string ⟨#[]⟩, .string a, .slice none 0 0]) (by simp [results, Try.results34, go_sem]) rfl ⟨_, rfl, ⟨none, 0, 0, rfl, SlAt.nil _ _⟩, (Below.refl _ _).alloc (Nat.le_refl _) _⟩
end Go.Proofs.Ythidhgniondkgaa

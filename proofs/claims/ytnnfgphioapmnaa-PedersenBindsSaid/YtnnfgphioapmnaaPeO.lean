/- Walk: dominoref13.Product. -/
import Derived.Test.YtnnfgphioapmnaaPeN
set_option linter.unusedVariables false
set_option linter.unusedSimpArgs false
namespace Go.Proofs.Ytnnfgphioapmnaa
open Go.RowKit

theorem prR_bad {M O : ByteArray} {l : List ByteArray} {zs : List (Bool × ByteArray)} {c : Int} (h : ckR M O l zs (decide (l.length = zs.length)) = c) (hc : c ≠ 0) : prR M O l zs = .tuple #[.string ⟨#[]⟩, .int .i64 c] := by
  unfold prR
  rw [if_neg (by rw [h]; exact hc), h]
end Go.Proofs.Ytnnfgphioapmnaa

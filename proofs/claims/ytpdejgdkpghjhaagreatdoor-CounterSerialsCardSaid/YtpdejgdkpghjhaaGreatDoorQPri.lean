/- Walks: natural.Mul and natural.DivMod of any numbers. -/
import Derived.Test.YtpdejgdkpghjhaaGreatDoorQLdC
import Derived.Test.YtpdejgdkpghjhaaGreatDoorQLdB
import Derived.Test.YtpdejgdkpghjhaaGreatDoorQPeK
import Derived.Test.YtpdejgdkpghjhaaGreatDoorQRowN
import Derived.Lib.SliceRun
import Derived.Test.YtpdejgdkpghjhaaGreatDoorQInB
import Derived.Test.YtpdejgdkpghjhaaGreatDoorQPwG
set_option linter.unusedVariables false
set_option linter.unusedSimpArgs false
namespace Go.Proofs.YtpdejgdkpghjhaaGreatDoor
open Go.RowKit
theorem nat_DivModA (x y : Nat) (hx : x < 256 ^ 128) (hy : y < 256 ^ 128) (h0 : 0 < y) (w : World) : Calls Tryz.prog 132 #[.string (nS x), .string (nS y)] w (Ret (.tuple #[.string (nS (x / y)), .string (nS (x % y)), .int .i64 0]) w) := by
  have HD := Lib.hid (nat_dividedA x y hx hy h0)
  have hem := empty_nS h0
  have hs1 := nS_size_le.2 hx
  have hs2 := nS_size_le.2 hy
  have HV1 := Lib.hid (nvalid_nS.2 hx)
  have HV2 := Lib.hid (nvalid_nS.2 hy)
  obtain ⟨s, hs⟩ : ∃ s, nS x = s := ⟨_, rfl⟩
  obtain ⟨t, ht⟩ : ∃ t, nS y = t := ⟨_, rfl⟩
  rw [hs] at hs1 HV1 HD ⊢
  rw [ht] at hs2 HV2 hem HD ⊢
  clear hs ht hx hy
  go_enter Tryz.func132, Tryz.ntmps132
  go_wp2_with fail
  refine (nat_Valid s (by omega) _).mono ?_
  rintro e w1 ⟨rfl, rfl⟩
  rw [HV1.out]
  go_wp2_with fail
  refine (nat_Valid t (by omega) _).mono ?_
  rintro e w1 ⟨rfl, rfl⟩
  rw [HV2.out]
  go_wp2_with fail
  refine (HD.out _).mono ?_
  rintro e w1 ⟨rfl, hb⟩
  have HB := Lib.hid hb
  clear hb
  go_wp2
  go_ret3
  exact ⟨rfl, HB.out⟩
end Go.Proofs.YtpdejgdkpghjhaaGreatDoor
/- Walks: prime.bases, is (numbers with a small factor), small, Is; primegroup.cofactor, Check. -/
set_option linter.unusedVariables false
set_option linter.unusedSimpArgs false
namespace Go.Proofs.YtpdejgdkpghjhaaGreatDoor
open Go.RowKit
set_option maxRecDepth 100000 in
set_option maxHeartbeats 1000000 in
theorem pg_cofactor (m q : Nat) (hm : 1 ≤ m) (hm8 : m < 18446744073709551616) (hq : 1 ≤ q) (hq8 : q < 256 ^ 128) (w : World) : Calls Tryz.prog 63 #[gV (nS m) (nS q)] w (Ret (.tuple #[.string (nS ((m - 1) / q)), .bool (decide ((m - 1) % q = 0))]) w) := by
  have HS := Lib.hid (nat_Sub_ge m 1 (lt128_of_lt8 hm8) (by decide) hm)
  have HD := Lib.hid (nat_DivMod (m - 1) q (by omega) hq8 hq)
  have hq0 := empty_nS (n := q) hq
  rw [nS_one] at HS
  have HZ := Lib.hid (show (nS ((m - 1) % q)).toList.isEmpty = decide ((m - 1) % q = 0) from by
    cases e : decide ((m - 1) % q = 0) with
    | true => rw [of_decide_eq_true e]; exact sempty_true rfl
    | false => exact empty_nS (by have := of_decide_eq_false e; omega))
  obtain ⟨s, hs⟩ : ∃ s, nS m = s := ⟨_, rfl⟩
  obtain ⟨t, ht⟩ : ∃ t, nS q = t := ⟨_, rfl⟩
  obtain ⟨u, hu⟩ : ∃ u, nS (m - 1) = u := ⟨_, rfl⟩
  obtain ⟨r, hr⟩ : ∃ r, nS ((m - 1) % q) = r := ⟨_, rfl⟩
  rw [hs, hu] at HS
  rw [hu, ht, hr] at HD
  rw [ht] at hq0
  rw [hr] at HZ
  rw [hs, ht, ← HZ.out]
  clear hs ht hu hr hm hm8 hq hq8
  have HX0 := Lib.hid (Bx2.new w (.string s) (.string t) 24)
  have HB0 := Lib.hid ((Below.refl w.heap.size w).alloc (Nat.le_refl _) (.cells #[.string s, .string t] 24))
  have c0 := HX0.out.c0
  unfold gV
  go_enter Tryz.func63, Tryz.ntmps63
  go_wp2_with fail
  refine (HS.out _).mono ?_
  rintro e w1 ⟨rfl, hb1⟩
  have HX1 := Lib.hid (HX0.out.next hb1)
  have HB1 := Lib.hid (HB0.out.trans (hb1.mono HB0.out.size))
  clear hb1 c0
  have c1 := HX1.out.c1
  go_wp2_with fail
  refine (HD.out _).mono ?_
  rintro e w2 ⟨rfl, hb2⟩
  have HB2 := Lib.hid (HB1.out.trans (hb2.mono HB1.out.size))
  clear hb2
  go_wp2
  go_ret2
  exact ⟨rfl, HB2.out⟩
end Go.Proofs.YtpdejgdkpghjhaaGreatDoor

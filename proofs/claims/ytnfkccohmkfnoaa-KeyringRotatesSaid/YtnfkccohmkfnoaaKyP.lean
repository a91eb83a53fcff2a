/- Walk: keyring.all. -/
import Derived.Test.YtnfkccohmkfnoaaKyO
set_option linter.unusedVariables false
set_option linter.unusedSimpArgs false
namespace Go.Proofs.Ytnfkccohmkfnoaa
open Go.RowKit

/-- What all returns. -/
def RetAll (l : List Ver) (w : World) (e : Ending) (w' : World) : Prop := ∃ rv vs, e = .returned rv ∧ w'.ownsRow w.heap.size 38 18 rv l.length vs ∧ VRowO w' rv.ownBlock w.heap.size vs l ∧ Below w.heap.size w w'
set_option maxRecDepth 100000 in
set_option maxHeartbeats 4000000 in
theorem ky_all (l : List Ver) (A : Option Addr) (len cap : Nat) (w : World) (hs : SlV w A len cap l) (hlen : len ≤ 4096) (hfw : FwV l) : Calls Try.prog 25 #[.slice A len cap] w (RetAll l w) := by
  have HS := Lib.hid hs
  have HLEN := Lib.hid hs.1
  have HFW := Lib.hid hfw
  have hcap := hs.2.1
  have hcap2 := hs.2.2.1
  clear hs hfw
  go_enter Try.func25, Try.ntmps25
  go_wp2
  go_loopw [3, 8] (fun s i wr => ∃ (j : Nat) (vs : List Value), j ≤ len ∧ i = .int .i64 j ∧ wr.ownsRow w.heap.size 38 18 s j vs ∧ VRowO wr s.ownBlock w.heap.size vs (l.take j) ∧ Below w.heap.size w wr) (fun _ i _ => len - (intOf i).toNat)
  case atStart => exact ⟨0, [], Nat.zero_le _, rfl, World.ownsRow_nil _ _ _ _, rfl, Below.refl _ _⟩
  case round =>
    obtain ⟨j, vs, hj, rfl, hown, hvr, hbb⟩ := hrel
    have HB := Lib.hid hbb
    have HOWN := Lib.hid hown
    have HVR := Lib.hid hvr
    have HSR := Lib.hid (HS.out.kept hbb (Nat.le_refl _))
    clear hbb hown hvr
    by_cases hlt : j < len
    · obtain ⟨b, o, rfl⟩ := HS.out.head (by omega)
      obtain ⟨v, he⟩ : ∃ v, l[j]? = some v := ⟨_, List.getElem?_eq_getElem (by rw [HLEN.out]; exact hlt)⟩
      obtain ⟨A1, n1, c1, hvc, hsl⟩ := HSR.out.get? j he
      have HSL := Lib.hid hsl
      have HE := Lib.hid he
      have HRA := Lib.hid (show wr.rangeAt b (o + j * 18) (v.vals (.slice A1 n1 c1)) from hvc)
      have HSZ := Lib.hid (show (Try.prog.info? 38).map (·.size) = some (v.vals (.slice A1 n1 c1)).length from by kernel_rfl)
      have HON := Lib.hid (v.arr_one (A := A1) (n := n1) (c := c1))
      obtain ⟨cs, hcs⟩ : ∃ cs, v.arr (.slice A1 n1 c1) = cs := ⟨_, rfl⟩
      have HCS := Lib.hid (show cs.size = 18 from by rw [← hcs]; rfl)
      have hva : (v.vals (.slice A1 n1 c1)).toArray = cs := hcs
      rw [hcs] at HON
      have HVA := Lib.hid hcs
      clear hvc he hcs hsl
      go_upto_region 4 with fail
      refine wp_region_lit ?_
      iterate 3 go_step
      refine wpList_load_mid rfl 38 _ rfl b (o + j * 18) rfl _ _ HRA.out Try.underlying38 rfl HSZ.out ?_
      rw [hva]
      clear hva
      refine Great.wpList_allocTo rfl _ rfl (.pointer (some ⟨wr.heap.size, 0, none⟩)) (.cells (ver0.arr (.slice none 0 0)) 38) (by kernel_rfl) ?_
      refine wpList_store_rowTo rfl 38 _ _ rfl rfl wr.heap.size cs rfl rfl 38 (ver0.arr (.slice none 0 0)) (BxC.new wr _ _) (by rw [HCS.out]; kernel_rfl) (by rw [HCS.out]; rfl) HON.out ?_
      have HX := Lib.hid (box_row wr (ver0.arr (.slice none 0 0)) cs 38)
      have HW := Lib.hid (box_below wr (ver0.arr (.slice none 0 0)) cs 38)
      obtain ⟨w2, hw2⟩ : ∃ w2, (wr.alloc (.cells (ver0.arr (.slice none 0 0)) 38)).setRow wr.heap.size cs = w2 := ⟨_, rfl⟩
      rw [hw2] at HX HW ⊢
      clear hw2
      have HCO := Lib.hid (show Calls Try.prog 20 #[.agg cs] w2 (RetVV v w2) from by
        rw [← HVA.out]
        exact ky_copied v A1 n1 c1 w2 (HSL.out.kept HW.out (Nat.le_refl _)) (by rw [← HSL.out.1]; exact HFW.out j v HE.out))
      go_upto_region 5 with fail
      refine wp_region_lit ?_
      iterate 3 go_step
      refine wpList_load_row rfl 38 _ rfl wr.heap.size rfl 38 cs (0, 0) _ HX.out Try.underlying38 rfl (by rw [HCS.out]; kernel_rfl) ?_
      go_wp2_with fail
      refine HCO.out.mono ?_
      rintro ev w3 ⟨A2, n2, c2, rfl, ⟨B2, hB2, hown2⟩, hb3⟩
      have hww : wr.heap.size ≤ w2.heap.size := HW.out.size
      have HB3 := Lib.hid (HW.out.trans (hb3.mono hww))
      have HBB3 := Lib.hid (HB.out.trans (HB3.out.mono HB.out.size))
      have HO3 := Lib.hid ((owns_kept HOWN.out HB3.out (Nat.le_refl _)).alloc (.cells (v.arr (.slice A2 n2 c2)) 38))
      have HLT := Lib.hid (fun k (e : u3.ownBlock = some k) => (HOWN.out.lt k e).2)
      obtain ⟨hl4, A4, c4, e4, hs4⟩ := SlN.of_owns hown2
      cases e4
      have HSO := Lib.hid (show SlO w3 u3.ownBlock w.heap.size A2 n2 c2 v.kr from ⟨hs4, fun hn a e => by
        have h2 := (hown2.lt a.block (by rw [e]; rfl)).1
        have h3 := HB.out.size
        exact ⟨fun h => by have h1 := HLT.out _ h; omega, by omega⟩⟩)
      have HVR3 := Lib.hid (show VRowO (w3.alloc (.cells (v.arr (.slice A2 n2 c2)) 38)) u3.ownBlock w.heap.size (vs ++ v.vals (.slice A2 n2 c2)) (l.take (j + 1)) from by
        rw [List.take_add_one, HE.out, Option.toList_some]
        exact VRowO.kept ((Below.refl _ _).alloc (Nat.le_refl _) _) (Nat.le_refl _) ((HVR.out.kept HB3.out (Nat.le_refl _)).snoc HSO.out))
      clear hb3 hown2 hs4 hl4 hB2 hww
      rw [show v.val (.slice A2 n2 c2) = .agg (v.arr (.slice A2 n2 c2)) from rfl]
      dsimp only
      iterate 1 go_step
      refine wpList_build_ver rfl _ rfl v A2 n2 c2 rfl ?_
      obtain ⟨i0, hi, iz0, iz1, iz2⟩ := info_parts ver_info
      refine wpList_append_lies _ rfl (.tmp 12) (.tmp 15) 22 rfl w.heap.size 38 i0 _ 18 272 Try.underlying22 hi iz0 iz1 iz2 rfl (by decide) u3 j vs rfl HO3.out ⟨w3.heap.size, 0, none⟩ 1 1 (v.vals (.slice A2 n2 c2)) rfl rfl (World.news_of_block (heap_alloc_new w3 (.cells (v.arr (.slice A2 n2 c2)) 38))) v.one (by decide) (by unfold maxLen; omega) (by omega) (by have := HBB3.out.size; simp; omega) _ rfl ?_
      intro g cap7 w7 hown7 hgrow7 hat7 hlt7
      have HO7 := Lib.hid hown7
      have HVR7 := Lib.hid (HVR3.out.grow hgrow7 hat7)
      have HB7 := Lib.hid ((HBB3.out.alloc HBB3.out.size _).grown hgrow7 (by have := HBB3.out.size; simp; omega) (fun k hk => (HO3.out.lt k hk).1))
      clear hown7 hgrow7 hat7 hlt7 hi iz0 iz1 iz2
      go_wp2
      go_roundw
      case rel => exact ⟨j + 1, _, by omega, by go_num, HO7.out, HVR7.out, HB7.out⟩
      case measure => simp [intOf]; omega
    · obtain rfl : j = len := by omega
      have HO := Lib.hid (show wr.ownsRow w.heap.size 38 18 u3 l.length vs from by rw [HLEN.out]; exact HOWN.out)
      have HV := Lib.hid (show VRowO wr u3.ownBlock w.heap.size vs l from by have := HVR.out; rw [← HLEN.out, List.take_length] at this; exact this)
      clear hlt hj
      go_wp2
      go_ret
      exact ⟨u3, vs, rfl, HO.out, HV.out, HB.out⟩
end Go.Proofs.Ytnfkccohmkfnoaa

/- Maps from numbers to integers; walk: slices.SortedFunc of a map's keys. -/
import Derived.Test.YtelhpdlegjgjjaaEpG
import Derived.Test.YtelhpdlegjgjjaaShelc
import Derived.Maps.OwnSet
import Derived.Maps.OwnOps
import Derived.Maps.Views
import Derived.StringKeys
set_option linter.unusedVariables false
set_option linter.unusedSimpArgs false
namespace Go.Proofs.Ytelhpdlegjgjjaa
open Go.RowKit
open Go.Maps Go.WideMaps Go.Sort Go.Shelf

theorem lawS : Keyed Try.prog 9 := string_keyed Try.underlying9
theorem zeroI (w : World) : (zeroValue 3).run Try.prog w = .ok (.int .i64 0) w := by kernel_rfl
theorem lawN : Keyed Try.prog 23 := string_keyed Try.underlying23
theorem keyN {s : ByteArray} (h : s.size ≤ maxLen) : keyOf Try.prog 23 (.string s) = some (.string s.data.toList) := keyOf_string_mk Try.underlying23 h
/-- Block b is a map of at most n entries whose keys are K; what it says of s is g s. -/
def MapZ (w : World) (b n : Nat) (K : List ByteArray) (g : ByteArray → Int) : Prop := ∃ D : DataW Unit, w.ownsMap Try.prog 23 (plainElem (H := Unit) Try.prog 3) b n D ∧
  ∀ s : ByteArray, (Maps.has D (.string s.data.toList) = true ↔ s ∈ K) ∧ D.atKey (.string s.data.toList) (.lit (.int .i64 0)) = .lit (.int .i64 (g s))
theorem MapZ.made (w : World) : MapZ (w.alloc (.map #[] 0)) w.heap.size 0 [] (fun _ => 0) := ⟨_, World.ownsMap_made _ _ _ _, fun _ => ⟨⟨(fun h => by cases h), (fun h => by cases h)⟩, rfl⟩⟩
theorem MapZ.lt {w : World} {b n : Nat} {K : List ByteArray} {g : ByteArray → Int} (h : MapZ w b n K g) : b < w.heap.size := let ⟨_, h1, _⟩ := h; h1.lt
theorem MapZ.of_block {w w' : World} {b n : Nat} {K : List ByteArray} {g : ByteArray → Int} (h : MapZ w b n K g) (e : w'.heap[b]? = w.heap[b]?) : MapZ w' b n K g := by
  obtain ⟨D, ⟨es, clock, h1, h2⟩, h3⟩ := h
  exact ⟨D, ⟨es, clock, e.trans h1, h2⟩, h3⟩
theorem MapZ.kept {B : Nat} {w w' : World} {b n : Nat} {K : List ByteArray} {g : ByteArray → Int} (h : MapZ w b n K g) (hb : Below B w w') (hB : w.heap.size ≤ B) : MapZ w' b n K g :=
  h.of_block (hb.block b (Nat.lt_of_lt_of_le h.lt hB))
theorem MapZ.congr {w : World} {b n n' : Nat} {K K' : List ByteArray} {g g' : ByteArray → Int} (h : MapZ w b n K g) (hn : n = n') (hK : K = K') (hg : g = g') : MapZ w b n' K' g' := by
  subst hn hK hg; exact h
theorem mapZ_put {w' : World} {b n : Nat} {K : List ByteArray} {g : ByteArray → Int} {h : ByteArray} {k : Int} {D : DataW Unit} (hf : ∀ s : ByteArray, (Maps.has D (.string s.data.toList) = true ↔ s ∈ K) ∧ D.atKey (.string s.data.toList) (.lit (.int .i64 0)) = .lit (.int .i64 (g s))) (hm : IsMap D)
    (hown : w'.ownsMap Try.prog 23 (plainElem (H := Unit) Try.prog 3) b (n + 1) (D.put (.string h.data.toList) (.lit (.int .i64 k)))) : MapZ w' b (n + 1) (K ++ [h]) (fun u => if u = h then k else g u) := by
  have hk : WideAt.IsKeyLit (.string h.data.toList) := trivial
  refine ⟨_, hown, fun s => ?_⟩
  dsimp only
  by_cases e : s = h
  · subst e
    rw [has_put_same hm hk, if_pos rfl]
    exact ⟨⟨fun _ => by simp, fun _ => rfl⟩, atKey_put_same hm hk _ _⟩
  · have hne : (Lit.string s.data.toList) ≠ (Lit.string h.data.toList) := fun hh => e (by simp only [Lit.string.injEq] at hh; rw [← bstr_of h, ← bstr_of s, hh])
    rw [has_put_other hne, if_neg e, atKey_put_other hne]
    refine ⟨?_, (hf s).2⟩
    rw [(hf s).1]
    simp [e]

/-- A canonical number. -/
abbrev VN := {s : ByteArray // nvalid s = true}
instance : Inhabited VN := ⟨⟨⟨#[]⟩, by decide⟩⟩
def VN.enc (x : VN) : Value := .string x.1
def VN.cf (x y : VN) : Int := cmpI (num x.1) (num y.1)
theorem VN.lt_iff (x y : VN) : ltOf VN.cf x y = decide (num x.1 < num y.1) := decide_eq_decide.2 cmpI_neg
theorem VN.swo : SWO (ltOf VN.cf) where
  irrefl x := by rw [VN.lt_iff]; exact decide_eq_false (Nat.lt_irrefl _)
  trans x y z h1 h2 := by rw [VN.lt_iff] at *; simp only [decide_eq_true_eq] at *; omega
  ntrans x y z h1 h2 := by rw [VN.lt_iff] at *; simp only [decide_eq_false_iff_not] at *; omega
theorem VN.reads (blk off size : Nat) (w : World) : CmpReads Try.prog 36 #[] VN.enc VN.cf blk off size w := by
  intro m os dk _ x y
  have h := nat_Cmp x.1 y.1 (by have := size_valid x.2; omega) (by have := size_valid y.2; omega) (sortWorld VN.enc w blk off m dk os)
  rw [ncmp_num x.2 y.2] at h
  exact h.mono fun e w' ⟨he, hw⟩ => ⟨he, 0, hw.symm⟩
set_option maxRecDepth 100000 in
theorem ins_none (w : World) : Calls Try.prog 82 #[.slice none 0 0, .int .i64 0, .int .i64 0, .func (.func 36) #[] #[]] w (fun e w' => e = .returned (.tuple #[]) ∧ w' = w) := by
  go_enter Try.func82, Try.ntmps82
  go_wp2
  refine wp_loop_rounds 1 ?_
  rw [rounds_succ]
  go_wp2
  go_end0
  exact ⟨rfl, rfl⟩
set_option maxRecDepth 100000 in
theorem pdq_none (w : World) (l : Int) : Calls Try.prog 77 #[.slice none 0 0, .int .i64 0, .int .i64 0, .int .i64 l, .func (.func 36) #[] #[]] w (fun e w' => e = .returned (.tuple #[]) ∧ w' = w) := by
  go_enter Try.func77, Try.ntmps77
  go_wp2_with fail
  refine wp_loop_rounds 1 ?_
  rw [rounds_succ]
  go_wp2_with fail
  refine (ins_none _).mono ?_
  rintro e w1 ⟨rfl, rfl⟩
  go_wp2
  exact bodyPost_ret (v := .tuple #[]) (by simp [results, Try.results77, go_sem]) rfl ⟨rfl, rfl⟩
set_option maxRecDepth 100000 in
theorem sort_none (w : World) : Calls Try.prog 62 #[.slice none 0 0, .func (.func 36) #[] #[]] w (fun e w' => e = .returned (.tuple #[]) ∧ w' = w) := by
  go_enter Try.func62, Try.ntmps62
  go_wp2_with fail
  refine (Try.bits_Len 0 _ (by decide) (by decide)).mono ?_
  rintro e w1 ⟨rfl, rfl⟩
  go_wp2_with fail
  refine (pdq_none _ _).mono ?_
  rintro e w1 ⟨rfl, rfl⟩
  go_wp2
  go_end0
  exact ⟨rfl, rfl⟩
/-- The keys of a map, sorted. -/
def SortedK (K l : List ByteArray) : Prop := (∀ s ∈ l, nvalid s = true) ∧ (∀ (i j : Nat) a b, i < j → l[i]? = some a → l[j]? = some b → num a < num b) ∧ ∀ s, s ∈ l ↔ s ∈ K
theorem below_sort {B : Nat} (w : World) (blk n : Nat) (d : Array VN) (os : Array Obj) (hB : B ≤ blk) (hblk : blk < w.heap.size) : Go.RowKit.Below B w (sortWorld VN.enc w blk 0 n d os) := by
  refine ⟨rfl, rfl, rfl, ?_, fun k hk => ?_⟩
  · unfold sortWorld putRow mapBlock Sort.ahead
    rw [Go.Sort.size_grow]
    simp
  · unfold sortWorld
    rw [Go.Sort.heap_grow_old _ _ (by unfold putRow mapBlock Sort.ahead; simp; omega)]
    unfold putRow mapBlock Sort.ahead
    simp only [Array.getElem?_modify]
    rw [if_neg (by omega)]
/-- A sorted row. -/
theorem sort_row (d : Array VN) (blk cap : Nat) (w : World) (hH : Holds VN.enc w blk 0 d) (hblk : blk < w.heap.size) (hsz : d.size < 4611686018427387904) (hcap : d.size ≤ cap) (hc2 : cap ≤ 9223372036854775807) :
    Calls Try.prog 62 #[.slice (some ⟨blk, 0, none⟩) d.size cap, .func (.func 36) #[] #[]] w (fun e w' => e = .returned (.tuple #[]) ∧ ∃ d' : Array VN, PermIn 0 d.size d d' ∧ SortedIn (ltOf VN.cf) 0 d.size d' ∧ SlN w' (some ⟨blk, 0, none⟩) d.size cap (d'.toList.map (fun x => x.1)) ∧ ∀ B, B ≤ blk → Go.RowKit.Below B w w') := by
  have eg : ∀ args w, (callFunc 36 args).run Try.prog w = .ok (.enter 36 args) w := enters_of Try.func36 (by kernel_rfl) rfl
  have h := Any.slices_SortFunc Try.sortN VN.enc (fun _ => rfl) VN.cf VN.swo 36 #[] blk 0 cap d w eg (VN.reads blk 0 d.size w).lays hH hblk hsz
  refine (show Calls _ 62 _ _ _ from h).mono ?_
  rintro e w' ⟨rfl, d', n, os, hp, hs, rfl⟩
  have hsw : SW VN.enc w blk 0 d' (sortWorld VN.enc w blk 0 n d' os) := ⟨n, os, rfl⟩
  have hh := hsw.holds hblk hH hp.1
  refine ⟨rfl, d', hp, hs, ⟨by simp [hp.1], hcap, hc2, blk, 0, fun _ => rfl, fun k s hk => ?_⟩, fun B hB => ?_⟩
  · rw [List.getElem?_map, Option.map_eq_some_iff] at hk
    obtain ⟨x, hx, rfl⟩ := hk
    rw [Array.getElem?_toList] at hx
    obtain ⟨hlt, hx⟩ := Array.getElem?_eq_some_iff.1 hx
    have := (hh k hlt).1
    rw [getElem!_pos d' k hlt, hx] at this
    exact this
  · exact below_sort w blk n d' os hB hblk
theorem mem_strKeys {w : World} {k : TypeId} {R : Value → Option (DataW Unit × List MemPlace)} {b n : Nat} {D : DataW Unit} (hown : w.ownsMap Try.prog k R b n D) (hk : Try.prog.underlying k = some .string) (x : List UInt8) : x ∈ strKeys D ↔ Maps.has D (.string x) = true := by
  obtain ⟨es, rfl, hko⟩ := hown.keysOf
  have hs : ∀ p ∈ es, ∃ x, p.1 = .string x := fun p hp => by obtain ⟨v, hv⟩ := hko p hp; obtain ⟨x, _, hx, _⟩ := Go.Maps.keyOf_str hk hv; exact ⟨x, hx⟩
  rw [has_eq, List.any_eq_true]
  show x ∈ es.map (fun p => strOf p.1) ↔ _
  rw [List.mem_map]
  constructor
  · rintro ⟨p, hp', rfl⟩
    obtain ⟨a, ha⟩ := hs p hp'
    exact ⟨p, hp', by rw [ha]; simp [Lit.sameKey, strOf]⟩
  · rintro ⟨p, hp', h⟩
    obtain ⟨a, ha⟩ := hs p hp'
    rw [ha] at h
    exact ⟨p, hp', by rw [ha]; simpa [Lit.sameKey, strOf] using h⟩
theorem nodup_strKeys {w : World} {k : TypeId} {R : Value → Option (DataW Unit × List MemPlace)} {b n : Nat} {D : DataW Unit} (hown : w.ownsMap Try.prog k R b n D) (K : Keyed Try.prog k) (hk : Try.prog.underlying k = some .string) : (strKeys D).Nodup := by
  obtain ⟨es, hD, hpw, _⟩ := hown.entries K
  obtain ⟨es', hD', hko⟩ := hown.keysOf
  obtain rfl : es = es' := by rw [hD] at hD'; simpa using hD'
  subst hD
  have hs : ∀ p ∈ es, ∃ x, p.1 = .string x := fun p hp => by obtain ⟨v, hv⟩ := hko p hp; obtain ⟨x, _, hx, _⟩ := Go.Maps.keyOf_str hk hv; exact ⟨x, hx⟩
  show (es.map (fun p => strOf p.1)).Nodup
  refine List.pairwise_map.2 (hpw.imp_of_mem fun {p q} hp' hq' hne e => hne ?_)
  obtain ⟨a, ha⟩ := hs p hp'
  obtain ⟨b, hb⟩ := hs q hq'
  rw [ha, hb] at e ⊢
  exact congrArg _ e
/-- A sorted permutation of different numbers ascends. -/
theorem sorted_asc {d d' : Array VN} (hp : PermIn 0 d.size d d') (hs : SortedIn (ltOf VN.cf) 0 d.size d') (hnd : d.toList.Nodup) {K : List ByteArray} (hK : ∀ s, s ∈ d.toList.map (fun x => x.1) ↔ s ∈ K) : SortedK K (d'.toList.map (fun x => x.1)) := by
  have hperm : d'.toList.Perm d.toList := by
    have := hp.2.2
    rw [show d'.extract 0 d.size = d' from by rw [← hp.1]; simp, show d.extract 0 d.size = d from by simp] at this
    exact this
  have hnd' : d'.toList.Nodup := hperm.nodup_iff.2 hnd
  refine ⟨fun s hs' => ?_, fun i j a b hij ha hb => ?_, fun s => ?_⟩
  · obtain ⟨x, _, rfl⟩ := List.mem_map.1 hs'
    exact x.2
  · rw [List.getElem?_map, Option.map_eq_some_iff] at ha hb
    obtain ⟨x, hx, rfl⟩ := ha
    obtain ⟨y, hy, rfl⟩ := hb
    rw [Array.getElem?_toList] at hx hy
    obtain ⟨hi, hx'⟩ := Array.getElem?_eq_some_iff.1 hx
    obtain ⟨hj, hy'⟩ := Array.getElem?_eq_some_iff.1 hy
    have h := hs i j (Nat.zero_le _) hij (by rw [← hp.1]; exact hj)
    rw [VN.lt_iff, decide_eq_false_iff_not, getElem!_pos d' i hi, getElem!_pos d' j hj, hx', hy'] at h
    rcases Nat.lt_or_ge (num x.1) (num y.1) with h' | h'
    · exact h'
    · exfalso
      have he : x = y := Subtype.ext (num_inj x.2 y.2 (by omega))
      have h1 : d'.toList[i]? = some x := by rw [Array.getElem?_toList]; exact hx
      have h2 : d'.toList[j]? = some x := by rw [Array.getElem?_toList, he]; exact hy
      have := (List.getElem?_inj (i := i) (j := j) (by simpa using hi) hnd').1 (h1.trans h2.symm)
      omega
  · rw [← hK s]
    exact (hperm.map _).mem_iff
set_option maxRecDepth 100000 in
set_option maxHeartbeats 1000000 in
theorem ep_sorted (b n Bm : Nat) (K : List ByteArray) (g : ByteArray → Int) (w : World) (hm : MapZ w b n K g) (hK : ∀ s ∈ K, nvalid s = true) (hn : n ≤ 10000000) (hB : w.cell? ⟨Bm, 0, none⟩ = some (.map (some b))) (hBl : Bm < w.heap.size) :
    Calls Try.prog 34 #[.func (.func 63) #[] #[.pointer (some ⟨Bm, 0, none⟩)], .func (.func 36) #[] #[]] w (fun e w' => ∃ A c l, e = .returned (.slice A l.length c) ∧ SlN w' A l.length c l ∧ SortedK K l ∧ l.length ≤ n ∧ (0 < l.length → ∀ ad, A = some ad → w.heap.size ≤ ad.block) ∧ Go.RowKit.Below w.heap.size w w') := by
  obtain ⟨D, hown, hD⟩ := hm
  have hsz := hown.size_le
  have hseq : SeqGives Fence.wide 2 Try.prog 63 #[.pointer (some ⟨Bm, 0, none⟩)] encStr (fun ss => ss.Perm (strKeys D)) (Maps.size D) w :=
    AnyZ.keys_gives (ρ := Try.keysN_ren) { Try.keysN with } Fence.wide _ trivial rfl (by omega) Bm b n D _ hBl hB hown
  have hcol := AnyZ.collect_in Try.collectN Fence.wide 4 trivial trivial rfl (by omega) 63 #[.pointer (some ⟨Bm, 0, none⟩)] trivial (enters_of Try.func63 (by kernel_rfl) rfl) _ _ (by unfold maxLen; omega) (by omega) _ hseq
  have HC := Lib.hid (callsIn_wide.1 hcol)
  clear hcol hseq
  have HMEM := Lib.hid (fun x => mem_strKeys hown Try.underlying23 x)
  have HND := Lib.hid (nodup_strKeys hown lawN Try.underlying23)
  have HDD := Lib.hid hD
  have HK := Lib.hid hK
  clear hown hD hK hB
  go_enter Try.func34, Try.ntmps34
  go_wp2_with fail
  refine HC.out.mono ?_
  rintro e w1 ⟨v, ss, rfl, hp, hown1, hnil, hb⟩
  have HP := Lib.hid hp
  have HO := Lib.hid hown1
  have HB := Lib.hid hb
  have HLE := Lib.hid (show ss.length ≤ n from by rw [hp.length_eq]; have : (strKeys D).length = Maps.size D := by cases D <;> simp [strKeys, Maps.size]
                                                  omega)
  have HKM := Lib.hid (show ∀ s : ByteArray, s.data.toList ∈ ss ↔ s ∈ K from fun s => by rw [hp.mem_iff, HMEM.out, (HDD.out s).1])
  cases hss : ss with
  | nil =>
    have hv := hnil.2 hss
    have HE := Lib.hid hss
    subst hv
    clear hp hown1 hb hnil HC hss
    go_wp2_with fail
    refine (sort_none _).mono ?_
    rintro e w2 ⟨rfl, rfl⟩
    go_wp2
    go_ret
    exact ⟨none, 0, [], rfl, SlN.nil _ _ (by omega) _, ⟨fun _ h => by (cases h), fun _ _ _ _ _ h => by (simp at h), fun s => by rw [← HKM.out s, HE.out]; simp⟩, Nat.zero_le _, (fun h0 => by simp at h0), HB.out⟩
  | cons x0 xs0 =>
    have hpos : 0 < ss.length := by rw [hss]; simp
    clear hss
    have hval : ∀ x ∈ ss, nvalid (bstr x) = true := fun x hx => HK.out _ ((HKM.out _).1 (by rw [bstr_data]; exact hx))
    obtain ⟨d, hd⟩ : ∃ d : Array VN, d = (ss.pmap (fun x h => (⟨bstr x, h⟩ : VN)) hval).toArray := ⟨_, rfl⟩
    have hds : d.size = ss.length := by rw [hd]; simp
    have hdl : d.toList.map (fun x => x.1) = ss.map bstr := by rw [hd]; simp [List.map_pmap]
    have hget : ∀ (j : Nat) (hj : j < d.size), VN.enc d[j]! = encStr (ss[j]'(by omega)) := fun j hj => by
      rw [getElem!_pos d j hj]
      have h := congrArg (fun l => l[j]?) hdl
      rw [List.getElem?_map, List.getElem?_map, Array.getElem?_toList, Array.getElem?_eq_getElem hj, List.getElem?_eq_getElem (by omega)] at h
      simp only [Option.map_some, Option.some.injEq] at h
      show Value.string _ = _
      rw [h]
      rfl
    obtain ⟨blk, cap, rfl, hbg, hblt⟩ := hown1.form hpos
    have hfrm := hown1.2
    have hH : Holds VN.enc w1 blk 0 d ∧ ss.length ≤ cap ∧ cap ≤ 9223372036854775807 := by
      rcases hfrm with ⟨h, _⟩ | ⟨g', cap', cur, hv, hgb, hh, hc, hmx, hs', ht⟩
      · cases h
      · cases hv
        refine ⟨fun j hj => ⟨?_, Lib.frozen_of_heap hh _⟩, hc, by unfold maxLen at hmx; exact hmx⟩
        rw [Lib.cell_of_heap hh, hget j hj, Nat.zero_add]
        have h2 : cur.toList[j]? = some (encStr (ss[j]'(by omega))) := by
          have h3 : (cur.toList.take (ss.length * 1))[j]? = some (encStr (ss[j]'(by omega))) := by rw [ht]; simp [List.getElem?_eq_getElem (show j < ss.length by omega)]
          rw [List.getElem?_take_of_lt (by omega)] at h3
          exact h3
        rw [Array.getElem?_toList] at h2
        exact h2
    obtain ⟨hH, hcap, hcap2⟩ := hH
    have hnd : d.toList.Nodup := by
      have h1 : (ss.map bstr).Nodup := by
        refine List.pairwise_map.2 ((hp.nodup_iff.2 HND.out).imp fun {x y} hne e => hne ?_)
        rw [← bstr_data x, ← bstr_data y, e]
      rw [← hdl] at h1
      exact (List.pairwise_map.1 h1).imp fun {x y} hne e => hne (by rw [e])
    have hKd : ∀ s, s ∈ d.toList.map (fun x => x.1) ↔ s ∈ K := fun s => by
      rw [hdl, ← HKM.out s, List.mem_map]
      constructor
      · rintro ⟨x, hx, rfl⟩; rw [bstr_data]; exact hx
      · intro h; exact ⟨_, h, bstr_of s⟩
    have HS := Lib.hid (sort_row d blk cap w1 hH hblt (by have := HLE.out; omega) (by omega) hcap2)
    rw [hds] at HS
    have HBG := Lib.hid hbg
    have HDS := Lib.hid hds
    have HNDD := Lib.hid hnd
    have HKD := Lib.hid hKd
    clear hp hown1 hb hnil HC hval hd hdl hget hfrm hH hcap hcap2 hnd hKd hds
    go_wp2_with fail
    refine HS.out.mono ?_
    rintro e w2 ⟨rfl, d', hp', hs', hsl, hbl⟩
    rw [← HDS.out] at hp' hs'
    have hso := sorted_asc hp' hs' HNDD.out HKD.out
    have hlen : (d'.toList.map (fun x => x.1)).length = ss.length := by simp [hp'.1, HDS.out]
    have HB2 := Lib.hid (HB.out.trans (hbl _ HBG.out))
    obtain ⟨l, hl⟩ : ∃ l, d'.toList.map (fun x => x.1) = l := ⟨_, rfl⟩
    rw [hl] at hsl hso hlen
    have HSL := Lib.hid hsl
    have HSO := Lib.hid hso
    have HLN := Lib.hid hlen
    clear hsl hso hlen hbl hp' hs' hl
    go_wp2
    go_ret
    exact ⟨some ⟨blk, 0, none⟩, cap, l, by rw [HLN.out]; rfl, by rw [HLN.out]; exact HSL.out, HSO.out, by rw [HLN.out]; exact HLE.out, (fun _ ad he => by cases he; exact HBG.out), HB2.out⟩
end Go.Proofs.Ytelhpdlegjgjjaa

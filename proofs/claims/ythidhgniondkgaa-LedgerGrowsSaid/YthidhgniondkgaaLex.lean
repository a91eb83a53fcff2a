/- Walks: names and keywords (ledger.name, dominoref41.Name, the keywords). -/
import Derived.Test.YthidhgniondkgaaNatB
import Derived.Test.YthidhgniondkgaaRows
set_option linter.unusedVariables false
set_option linter.unusedSimpArgs false
namespace Go.Proofs.Ythidhgniondkgaa
open Go.RowKit

def letterB (c : Int) : Bool := decide (97 ≤ c) && decide (c ≤ 122) || decide (65 ≤ c) && decide (c ≤ 90)
def digitB (c : Int) : Bool := decide (48 ≤ c) && decide (c ≤ 57)
/-- A byte inside a name. -/
def nchB (c : Int) : Bool := letterB c || (c == 95 || digitB c)
def kws : List (List UInt8) := [[112, 111, 108, 105, 99, 121], [117, 115, 101, 115], [114, 101, 118, 101, 97, 108], [112, 114, 111, 118, 101], [115, 99, 111, 112, 101], [108, 105, 109, 105, 116], [101, 115, 99, 114, 111, 119],
  [101, 110, 100], [97, 108, 108], [97, 110, 121], [97, 116, 108, 101, 97, 115, 116], [110, 111, 116], [116, 114, 117, 101], [102, 97, 108, 115, 101], [98, 101, 116, 119, 101, 101, 110], [97, 110, 100], [105, 110]]
def kwB (s : ByteArray) : Bool := kws.contains s.data.toList
/-- A name: not empty, of at most 32 bytes, a letter first, then letters, digits and underscores; no keyword. -/
def nameB (s : ByteArray) : Bool := (decide (s.size ≠ 0) && decide (s.size ≤ 32)) && (letterB (byteI s.data.toList 0) && (!kwB s && (List.range s.size).all fun i => nchB (byteI s.data.toList i)))

theorem letter_cases (c : Int) : (c < 65 ∧ letterB c = false) ∨ (65 ≤ c ∧ c ≤ 90 ∧ letterB c = true) ∨ (90 < c ∧ c < 97 ∧ letterB c = false) ∨ (97 ≤ c ∧ c ≤ 122 ∧ letterB c = true) ∨ (122 < c ∧ letterB c = false) := by
  by_cases h1 : c < 65
  · exact .inl ⟨h1, by simp [letterB]; omega⟩
  · by_cases h2 : c ≤ 90
    · exact .inr (.inl ⟨by omega, h2, by simp [letterB]; omega⟩)
    · by_cases h3 : c < 97
      · exact .inr (.inr (.inl ⟨by omega, h3, by simp [letterB]; omega⟩))
      · by_cases h4 : c ≤ 122
        · exact .inr (.inr (.inr (.inl ⟨by omega, h4, by simp [letterB]; omega⟩)))
        · exact .inr (.inr (.inr (.inr ⟨by omega, by simp [letterB]; omega⟩)))

set_option maxHeartbeats 400000 in
theorem led_letter (c : Int) (w : World) : Calls Try.prog 46 #[.int .u8 c] w (RetQ (.bool (letterB c)) w) := by
  rcases letter_cases c with ⟨h1, h⟩ | ⟨h1, h2, h⟩ | ⟨h1, h2, h⟩ | ⟨h1, h2, h⟩ | ⟨h1, h⟩ <;>
  · rw [h]
    clear h
    go_enter Try.func46, Try.ntmps46
    go_wp2
    go_ret
    exact ⟨by first | rfl | (simp; omega), rfl⟩
set_option maxHeartbeats 400000 in
theorem r41_letter (c : Int) (w : World) : Calls Try.prog 52 #[.int .u8 c] w (RetQ (.bool (letterB c)) w) := by
  rcases letter_cases c with ⟨h1, h⟩ | ⟨h1, h2, h⟩ | ⟨h1, h2, h⟩ | ⟨h1, h2, h⟩ | ⟨h1, h⟩ <;>
  · rw [h]
    clear h
    go_enter Try.func52, Try.ntmps52
    go_wp2
    go_ret
    exact ⟨by first | rfl | (simp; omega), rfl⟩
set_option maxHeartbeats 400000 in
theorem r41_digit (c : Int) (w : World) : Calls Try.prog 53 #[.int .u8 c] w (RetQ (.bool (digitB c)) w) := by
  by_cases h1 : 48 ≤ c
  · by_cases h2 : c ≤ 57
    · have h : digitB c = true := by simp [digitB]; omega
      rw [h]
      clear h
      go_enter Try.func53, Try.ntmps53
      go_wp2
      go_ret
      exact ⟨rfl, rfl⟩
    · have h : digitB c = false := by simp [digitB]; omega
      rw [h]
      clear h
      go_enter Try.func53, Try.ntmps53
      go_wp2
      go_ret
      exact ⟨rfl, rfl⟩
  · have h : digitB c = false := by simp [digitB]; omega
    rw [h]
    clear h
    go_enter Try.func53, Try.ntmps53
    go_wp2
    go_ret
    exact ⟨rfl, rfl⟩

set_option maxRecDepth 100000 in
set_option maxHeartbeats 4000000 in
theorem lex_Keyword (s : ByteArray) (w : World) : Calls Try.prog 47 #[.string s] w (RetQ (.bool (kwB s)) w) := by
  rw [← bstr_of s]
  by_cases h : s.data.toList ∈ kws
  · have hk : kwB (bstr s.data.toList) = true := by simp [kwB, bstr_data, h]
    rw [hk]
    clear hk
    simp only [kws, List.mem_cons, List.mem_nil_iff, or_false] at h
    rcases h with h | h | h | h | h | h | h | h | h | h | h | h | h | h | h | h | h <;>
    · rw [h]
      clear h
      unfold bstr
      go_enter Try.func47, Try.ntmps47
      go_wp2
      go_ret
      exact ⟨rfl, rfl⟩
  · have hk : kwB (bstr s.data.toList) = false := by simp [kwB, bstr_data, h]
    rw [hk, bstr_of s]
    clear hk
    simp only [kws, List.mem_cons, List.mem_nil_iff, or_false, not_or, ← ByteArray.toList_eq] at h
    obtain ⟨h1, h2, h3, h4, h5, h6, h7, h8, h9, h10, h11, h12, h13, h14, h15, h16, h17⟩ := h
    have e1 := beq_eq_false_iff_ne.2 h1
    have e2 := beq_eq_false_iff_ne.2 h2
    have e3 := beq_eq_false_iff_ne.2 h3
    have e4 := beq_eq_false_iff_ne.2 h4
    have e5 := beq_eq_false_iff_ne.2 h5
    have e6 := beq_eq_false_iff_ne.2 h6
    have e7 := beq_eq_false_iff_ne.2 h7
    have e8 := beq_eq_false_iff_ne.2 h8
    have e9 := beq_eq_false_iff_ne.2 h9
    have e10 := beq_eq_false_iff_ne.2 h10
    have e11 := beq_eq_false_iff_ne.2 h11
    have e12 := beq_eq_false_iff_ne.2 h12
    have e13 := beq_eq_false_iff_ne.2 h13
    have e14 := beq_eq_false_iff_ne.2 h14
    have e15 := beq_eq_false_iff_ne.2 h15
    have e16 := beq_eq_false_iff_ne.2 h16
    have e17 := beq_eq_false_iff_ne.2 h17
    clear h1 h2 h3 h4 h5 h6 h7 h8 h9 h10 h11 h12 h13 h14 h15 h16 h17
    go_enter Try.func47, Try.ntmps47
    go_wp2
    go_ret
    exact ⟨rfl, rfl⟩

/-- The first sixteen keywords, by their number. -/
def kwAt (k : Nat) : ByteArray := bstr (kws.getD k [])
theorem kwB_false {s : ByteArray} (h : ∀ k, k < 16 → kwAt k ≠ s) (h' : s.data.toList ≠ [105, 110]) : kwB s = false := by
  have hk : ∀ k, k < 16 → kws.getD k [] ≠ s.data.toList := fun k hk e => h k hk (by unfold kwAt; rw [e, bstr_of])
  have : s.data.toList ∉ kws := by
    intro hm
    simp only [kws, List.mem_cons, List.mem_nil_iff, or_false] at hm
    rcases hm with e | e | e | e | e | e | e | e | e | e | e | e | e | e | e | e | e
    · exact hk 0 (by omega) e.symm
    · exact hk 1 (by omega) e.symm
    · exact hk 2 (by omega) e.symm
    · exact hk 3 (by omega) e.symm
    · exact hk 4 (by omega) e.symm
    · exact hk 5 (by omega) e.symm
    · exact hk 6 (by omega) e.symm
    · exact hk 7 (by omega) e.symm
    · exact hk 8 (by omega) e.symm
    · exact hk 9 (by omega) e.symm
    · exact hk 10 (by omega) e.symm
    · exact hk 11 (by omega) e.symm
    · exact hk 12 (by omega) e.symm
    · exact hk 13 (by omega) e.symm
    · exact hk 14 (by omega) e.symm
    · exact hk 15 (by omega) e.symm
    · exact h' e
  simp [kwB, this]
theorem kwB_at {s : ByteArray} {k : Nat} (hk : k < 16) (h : kwAt k = s) : kwB s = true := by
  have : s.data.toList ∈ kws := by
    rw [← h, kwAt, bstr_data, List.getD_eq_getElem?_getD, List.getElem?_eq_getElem (show k < kws.length from by show k < 17; omega)]
    exact List.getElem_mem _
  simp [kwB, this]
theorem toList_inj {a b : ByteArray} (h : a.toList = b.toList) : a = b := by
  rw [ByteArray.toList_eq, ByteArray.toList_eq] at h
  rw [← bstr_of a, ← bstr_of b, h]
/-- '==' of two strings. -/
theorem str_beq_true {a b : ByteArray} (h : a = b) : (a.toList == b.toList) = true := by rw [h]; simp
theorem str_beq_false {a b : ByteArray} (h : a ≠ b) : (a.toList == b.toList) = false := beq_eq_false_iff_ne.2 fun e => h (toList_inj e)

set_option maxRecDepth 100000 in
set_option maxHeartbeats 4000000 in
theorem r40_Keyword (s : ByteArray) (w : World) : Calls Try.prog 54 #[.string s] w (Ret (.bool (kwB s)) w) := by
  go_enter Try.func54, Try.ntmps54
  go_wp2
  obtain ⟨w1, hw1⟩ : ∃ w1, w.alloc (.cells #[.string ⟨#[112, 111, 108, 105, 99, 121]⟩, .string ⟨#[117, 115, 101, 115]⟩, .string ⟨#[114, 101, 118, 101, 97, 108]⟩, .string ⟨#[112, 114, 111, 118, 101]⟩, .string ⟨#[115, 99, 111, 112, 101]⟩, .string ⟨#[108, 105, 109, 105, 116]⟩,
    .string ⟨#[101, 115, 99, 114, 111, 119]⟩, .string ⟨#[101, 110, 100]⟩, .string ⟨#[97, 108, 108]⟩, .string ⟨#[97, 110, 121]⟩, .string ⟨#[97, 116, 108, 101, 97, 115, 116]⟩, .string ⟨#[110, 111, 116]⟩, .string ⟨#[116, 114, 117, 101]⟩, .string ⟨#[102, 97, 108, 115, 101]⟩,
    .string ⟨#[98, 101, 116, 119, 101, 101, 110]⟩, .string ⟨#[97, 110, 100]⟩] 9) = w1 := ⟨_, rfl⟩
  rw [hw1]
  have hb : Below w.heap.size w w1 := by rw [← hw1]; exact (Below.refl _ _).alloc (Nat.le_refl _) _
  have hc : ∀ k, k < 16 → w1.cell? ⟨w.heap.size, k, none⟩ = some (.string (kwAt k)) := fun k hk => by
    rw [← hw1, World.cell?_alloc_at (hn := rfl)]
    rcases (show k = 0 ∨ k = 1 ∨ k = 2 ∨ k = 3 ∨ k = 4 ∨ k = 5 ∨ k = 6 ∨ k = 7 ∨ k = 8 ∨ k = 9 ∨ k = 10 ∨ k = 11 ∨ k = 12 ∨ k = 13 ∨ k = 14 ∨ k = 15 from by omega) with rfl | rfl | rfl | rfl | rfl | rfl | rfl | rfl | rfl | rfl | rfl | rfl | rfl | rfl | rfl | rfl <;> rfl
  have HB := Lib.hid hb
  have HC := Lib.hid hc
  clear hb hc hw1
  go_loop [4] (fun i => ∃ k : Nat, k ≤ 16 ∧ i = .int .i64 k ∧ ∀ j, j < k → kwAt j ≠ s) (fun i => 16 - (intOf i).toNat)
  case atStart => exact ⟨0, Nat.zero_le _, rfl, fun j hj => absurd hj (by omega)⟩
  case round =>
    obtain ⟨k, hk, rfl, hall⟩ := hrel
    have HALL := Lib.hid hall
    clear hall
    by_cases hlt : k < 16
    · have hck := HC.out k hlt
      by_cases he : kwAt k = s
      · have hr := kwB_at hlt he
        have HR := Lib.hid hr
        have he2 := str_beq_true he
        clear hr he
        go_wp2
        go_ret
        exact ⟨by rw [HR.out]; rfl, HB.out⟩
      · have he2 := str_beq_false he
        have HE := Lib.hid he
        clear he
        go_wp2
        go_round
        case rel => exact ⟨k + 1, by omega, by go_num, fun j hj => (by rcases Nat.lt_succ_iff_lt_or_eq.1 hj with h | h; exact HALL.out j h; subst h; exact HE.out)⟩
        case measure => simp [intOf]; omega
    · obtain rfl : k = 16 := by omega
      by_cases he : s.data.toList = [105, 110]
      · have hr : kwB s = true := by simp [kwB, he, kws]
        have he2 : (s.toList == [105, 110]) = true := by rw [ByteArray.toList_eq, he]; rfl
        have HR := Lib.hid hr
        clear hr he
        go_wp2
        go_ret
        exact ⟨by rw [HR.out]; rfl, HB.out⟩
      · have hr := kwB_false HALL.out he
        have he2 : (s.toList == [105, 110]) = false := by rw [ByteArray.toList_eq]; exact beq_eq_false_iff_ne.2 he
        have HR := Lib.hid hr
        clear hr he
        go_wp2
        go_ret
        exact ⟨by rw [HR.out]; rfl, HB.out⟩

theorem byteI_get (s : ByteArray) (k : Nat) (h : k < s.size) : byteI s.data.toList k = (s[k].toNat : Int) := by unfold byteI; rw [data_getD s k h]
theorem bne_false {a b : Int} (h : a = b) : (a != b) = false := by rw [h]; simp
theorem nch_cases (c : Int) (h : letterB c = false) : (c = 95 ∧ nchB c = true) ∨ (c ≠ 95 ∧ c < 48 ∧ nchB c = false) ∨ (c ≠ 95 ∧ 57 < c ∧ nchB c = false) ∨ (c ≠ 95 ∧ 48 ≤ c ∧ c ≤ 57 ∧ nchB c = true) := by
  by_cases h1 : c = 95
  · exact .inl ⟨h1, by simp [nchB, h1]⟩
  · have e1 : (c == 95) = false := beq_eq_false_iff_ne.2 h1
    by_cases h2 : c < 48
    · exact .inr (.inl ⟨h1, h2, by simp [nchB, h, e1, digitB]; omega⟩)
    · by_cases h3 : 57 < c
      · exact .inr (.inr (.inl ⟨h1, h3, by simp [nchB, h, e1, digitB]; omega⟩))
      · exact .inr (.inr (.inr ⟨h1, by omega, by omega, by simp [nchB, h, e1, digitB]; omega⟩))
theorem nameB_nil {s : ByteArray} (h : s.size = 0) : nameB s = false := by simp [nameB, h]
theorem nameB_long {s : ByteArray} (h : 32 < s.size) : nameB s = false := by simp [nameB]; omega
theorem nameB_first {s : ByteArray} (h : letterB (byteI s.data.toList 0) = false) : nameB s = false := by simp [nameB, h]
theorem nameB_kw {s : ByteArray} (h : kwB s = true) : nameB s = false := by simp [nameB, h]
theorem nameB_at {s : ByteArray} {k : Nat} (hk : k < s.size) (h : nchB (byteI s.data.toList k) = false) : nameB s = false := by
  have : ((List.range s.size).all fun i => nchB (byteI s.data.toList i)) = false := by
    rw [List.all_eq_false]
    exact ⟨k, List.mem_range.2 hk, by simp [h]⟩
  simp [nameB, this]
theorem nameB_yes {s : ByteArray} (h0 : 0 < s.size) (h1 : s.size ≤ 32) (h2 : letterB (byteI s.data.toList 0) = true) (h3 : kwB s = false) (h4 : ∀ j, j < s.size → nchB (byteI s.data.toList j) = true) : nameB s = true := by
  have : ((List.range s.size).all fun i => nchB (byteI s.data.toList i)) = true := by
    rw [List.all_eq_true]
    intro i hi
    exact h4 i (List.mem_range.1 hi)
  unfold nameB
  rw [this, h2, h3, decide_eq_true (show s.size ≠ 0 by omega), decide_eq_true h1]
  rfl

set_option maxRecDepth 100000 in
set_option maxHeartbeats 4000000 in
theorem led_name (s : ByteArray) (w : World) (hs : s.size ≤ 9223372036854775807) : Calls Try.prog 23 #[.string s] w (RetQ (.bool (nameB s)) w) := by
  by_cases h0 : s.size = 0
  · rw [nameB_nil h0]
    have e0 := sempty_true h0
    go_enter Try.func23, Try.ntmps23
    go_wp2
    go_ret
    exact ⟨rfl, rfl⟩
  · have hp : 0 < s.size := by omega
    have e0 := sempty_false hp
    by_cases h1 : 32 < s.size
    · rw [nameB_long h1]
      go_enter Try.func23, Try.ntmps23
      go_wp2
      go_ret
      exact ⟨rfl, rfl⟩
    · have hl := byteI_get s 0 hp
      cases h2 : letterB (byteI s.data.toList 0) with
      | false =>
        rw [nameB_first h2]
        rw [hl] at h2
        have H2 := Lib.hid h2
        clear h2 hl
        go_enter Try.func23, Try.ntmps23
        go_wp2_with fail
        refine (led_letter _ _).mono ?_
        rintro e w1 ⟨rfl, rfl⟩
        rw [H2.out]
        go_wp2
        go_ret
        exact ⟨rfl, rfl⟩
      | true =>
        have H2' := Lib.hid h2
        rw [hl] at h2
        have H2 := Lib.hid h2
        clear h2 hl
        cases h3 : kwB s with
        | true =>
          rw [nameB_kw h3]
          have H3 := Lib.hid h3
          clear h3
          go_enter Try.func23, Try.ntmps23
          go_wp2_with fail
          refine (led_letter _ _).mono ?_
          rintro e w1 ⟨rfl, rfl⟩
          rw [H2.out]
          go_wp2_with fail
          refine (lex_Keyword _ _).mono ?_
          rintro e w1 ⟨rfl, rfl⟩
          rw [H3.out]
          go_wp2
          go_ret
          exact ⟨rfl, rfl⟩
        | false =>
          have H3 := Lib.hid h3
          clear h3
          go_enter Try.func23, Try.ntmps23
          go_wp2_with fail
          refine (led_letter _ _).mono ?_
          rintro e w1 ⟨rfl, rfl⟩
          rw [H2.out]
          go_wp2_with fail
          refine (lex_Keyword _ _).mono ?_
          rintro e w1 ⟨rfl, rfl⟩
          rw [H3.out]
          go_wp2
          go_loop [24] (fun i => ∃ k : Nat, k ≤ s.size ∧ i = .int .i64 k ∧ ∀ j, j < k → nchB (byteI s.data.toList j) = true) (fun i => s.size - (intOf i).toNat)
          case atStart => exact ⟨0, Nat.zero_le _, rfl, fun j hj => absurd hj (by omega)⟩
          case round =>
            obtain ⟨k, hk, rfl, hall⟩ := hrel
            have HALL := Lib.hid hall
            clear hall
            by_cases hlt : k < s.size
            · have hl := byteI_get s k hlt
              cases hc : letterB (byteI s.data.toList k) with
              | true =>
                have hn : nchB (byteI s.data.toList k) = true := by simp [nchB, hc]
                rw [hl] at hc
                have HC := Lib.hid hc
                have HN := Lib.hid hn
                clear hc hn hl
                go_wp2_with fail
                refine (led_letter _ _).mono ?_
                rintro e w1 ⟨rfl, rfl⟩
                rw [HC.out]
                go_wp2
                go_round
                case rel => exact ⟨k + 1, by omega, by go_num, fun j hj => (by rcases Nat.lt_succ_iff_lt_or_eq.1 hj with h | h; exact HALL.out j h; subst h; exact HN.out)⟩
                case measure => simp [intOf]; omega
              | false =>
                rcases nch_cases _ hc with ⟨h1, hn⟩ | ⟨h1, h2, hn⟩ | ⟨h1, h2, hn⟩ | ⟨h1, h2, h3, hn⟩
                all_goals
                  first
                  | (have hres := nameB_at hlt hn
                     have HRES := Lib.hid hres
                     clear hres)
                  | skip
                  rw [hl] at hc h1
                  try rw [hl] at h2
                  try rw [hl] at h3
                  have HC := Lib.hid hc
                  have HN := Lib.hid hn
                  first
                  | (have e1 := bne_false h1
                     clear h1)
                  | (have e1 := bne_iff_ne.2 h1
                     clear h1)
                  clear hc hn hl
                  go_wp2_with fail
                  refine (led_letter _ _).mono ?_
                  rintro e w1 ⟨rfl, rfl⟩
                  rw [HC.out]
                  go_wp2
                  first
                  | (go_ret
                     exact ⟨by rw [HRES.out]; rfl, rfl⟩)
                  | (go_round
                     case rel => exact ⟨k + 1, by omega, by go_num, fun j hj => (by rcases Nat.lt_succ_iff_lt_or_eq.1 hj with h | h; exact HALL.out j h; subst h; exact HN.out)⟩
                     case measure => simp [intOf]; omega)
            · obtain rfl : k = s.size := by omega
              have hr := nameB_yes hp (by omega) H2'.out H3.out HALL.out
              have HR := Lib.hid hr
              clear hr
              go_wp2
              go_ret
              exact ⟨by rw [HR.out]; rfl, rfl⟩
theorem eqz_true {k : Nat} (h : k = 0) : ((k : Int) == 0) = true := by rw [h]; rfl
theorem eqz_false {k : Nat} (h : k ≠ 0) : ((k : Int) == 0) = false := beq_eq_false_iff_ne.2 (by omega)
theorem digit_nch {c : Int} (h : letterB c = false) (h1 : c ≠ 95) : nchB c = digitB c := by
  have e1 : (c == 95) = false := beq_eq_false_iff_ne.2 h1
  simp [nchB, h, e1]
theorem nch_us {c : Int} (h : c = 95) : nchB c = true := by simp [nchB, h]

set_option maxRecDepth 100000 in
set_option maxHeartbeats 4000000 in
theorem r41_Name (s : ByteArray) (w : World) (hs : s.size ≤ 9223372036854775807) : Calls Try.prog 31 #[.string s] w (Ret (.bool (nameB s)) w) := by
  go_enter Try.func31, Try.ntmps31
  go_wp2
  go_loop [3] (fun i => ∃ k : Nat, k ≤ s.size ∧ i = .int .i64 k ∧ (∀ j, j < k → nchB (byteI s.data.toList j) = true) ∧ (0 < k → letterB (byteI s.data.toList 0) = true)) (fun i => s.size - (intOf i).toNat)
  case atStart => exact ⟨0, Nat.zero_le _, rfl, fun j hj => absurd hj (by omega), fun h => absurd h (by omega)⟩
  case round =>
    obtain ⟨k, hk, rfl, hall, hfst⟩ := hrel
    have HALL := Lib.hid hall
    have HFST := Lib.hid hfst
    clear hall hfst
    by_cases hlt : k < s.size
    · have hl := byteI_get s k hlt
      cases hc : letterB (byteI s.data.toList k) with
      | true =>
        have hn : nchB (byteI s.data.toList k) = true := by simp [nchB, hc]
        have HF := Lib.hid hc
        rw [hl] at hc
        have HC := Lib.hid hc
        have HN := Lib.hid hn
        clear hc hn hl
        go_wp2_with fail
        refine (r41_letter _ _).mono ?_
        rintro e w1 ⟨rfl, rfl⟩
        rw [HC.out]
        go_wp2
        go_round
        case rel => exact ⟨k + 1, by omega, by go_num, fun j hj => (by rcases Nat.lt_succ_iff_lt_or_eq.1 hj with h | h; exact HALL.out j h; subst h; exact HN.out), fun _ => (by rcases Nat.eq_zero_or_pos k with h | h; subst h; exact HF.out; exact HFST.out h)⟩
        case measure => simp [intOf]; omega
      | false =>
        by_cases hz : k = 0
        · have hr := hc
          rw [hz] at hr
          have hr := nameB_first hr
          have HR := Lib.hid hr
          have ez := eqz_true hz
          rw [hl] at hc
          have HC := Lib.hid hc
          clear hc hl hr hz
          go_wp2_with fail
          refine (r41_letter _ _).mono ?_
          rintro e w1 ⟨rfl, rfl⟩
          rw [HC.out]
          go_wp2
          go_ret
          exact ⟨by rw [HR.out]; rfl, Below.refl _ _⟩
        · have ez := eqz_false hz
          by_cases hu : byteI s.data.toList k = 95
          · have hn := nch_us hu
            rw [hl] at hc hu
            have e1 := bne_false hu
            have HC := Lib.hid hc
            have HN := Lib.hid hn
            have HZ := Lib.hid hz
            clear hc hl hu hn hz
            go_wp2_with fail
            refine (r41_letter _ _).mono ?_
            rintro e w1 ⟨rfl, rfl⟩
            rw [HC.out]
            go_wp2
            go_round
            case rel => exact ⟨k + 1, by omega, by go_num, fun j hj => (by rcases Nat.lt_succ_iff_lt_or_eq.1 hj with h | h; exact HALL.out j h; subst h; exact HN.out), fun _ => HFST.out (Nat.pos_of_ne_zero HZ.out)⟩
            case measure => simp [intOf]; omega
          · have hn := digit_nch hc hu
            cases hd : digitB (byteI s.data.toList k) with
            | true =>
              rw [hd] at hn
              rw [hl] at hc hu hd
              have e1 := bne_iff_ne.2 hu
              have HC := Lib.hid hc
              have HD := Lib.hid hd
              have HN := Lib.hid hn
              have HZ := Lib.hid hz
              clear hc hl hu hn hz hd
              go_wp2_with fail
              refine (r41_letter _ _).mono ?_
              rintro e w1 ⟨rfl, rfl⟩
              rw [HC.out]
              go_wp2_with fail
              refine (r41_digit _ _).mono ?_
              rintro e w1 ⟨rfl, rfl⟩
              rw [HD.out]
              go_wp2
              go_round
              case rel => exact ⟨k + 1, by omega, by go_num, fun j hj => (by rcases Nat.lt_succ_iff_lt_or_eq.1 hj with h | h; exact HALL.out j h; subst h; exact HN.out), fun _ => HFST.out (Nat.pos_of_ne_zero HZ.out)⟩
              case measure => simp [intOf]; omega
            | false =>
              rw [hd] at hn
              have hr := nameB_at hlt hn
              rw [hl] at hc hu hd
              have e1 := bne_iff_ne.2 hu
              have HC := Lib.hid hc
              have HD := Lib.hid hd
              have HR := Lib.hid hr
              clear hc hl hu hn hz hd hr
              go_wp2_with fail
              refine (r41_letter _ _).mono ?_
              rintro e w1 ⟨rfl, rfl⟩
              rw [HC.out]
              go_wp2_with fail
              refine (r41_digit _ _).mono ?_
              rintro e w1 ⟨rfl, rfl⟩
              rw [HD.out]
              go_wp2
              go_ret
              exact ⟨by rw [HR.out]; rfl, Below.refl _ _⟩
    · obtain rfl : k = s.size := by omega
      by_cases h0 : s.size = 0
      · have hr := nameB_nil h0
        have HR := Lib.hid hr
        have e0 := sempty_true h0
        clear hr
        go_wp2
        go_ret
        exact ⟨by rw [HR.out]; rfl, Below.refl _ _⟩
      · have hp : 0 < s.size := by omega
        have e0 := sempty_false hp
        by_cases h1 : 32 < s.size
        · have hr := nameB_long h1
          have HR := Lib.hid hr
          clear hr
          go_wp2
          go_ret
          exact ⟨by rw [HR.out]; rfl, Below.refl _ _⟩
        · cases h3 : kwB s with
          | true =>
            have hr := nameB_kw h3
            have HR := Lib.hid hr
            have H3 := Lib.hid h3
            clear hr h3
            go_wp2_with fail
            refine (r40_Keyword _ _).mono ?_
            rintro e w1 ⟨rfl, hb⟩
            rw [H3.out]
            have HB := Lib.hid hb
            clear hb
            go_wp2
            go_ret
            exact ⟨by rw [HR.out]; rfl, HB.out⟩
          | false =>
            have hr := nameB_yes hp (by omega) (HFST.out hp) h3 HALL.out
            have HR := Lib.hid hr
            have H3 := Lib.hid h3
            clear hr h3
            go_wp2_with fail
            refine (r40_Keyword _ _).mono ?_
            rintro e w1 ⟨rfl, hb⟩
            rw [H3.out]
            have HB := Lib.hid hb
            clear hb
            go_wp2
            go_ret
            exact ⟨by rw [HR.out]; rfl, HB.out⟩
end Go.Proofs.Ythidhgniondkgaa

import Derived.Test.YtppbcopnfankcaaGreatQPeEA
import Derived.Test.YtppbcopnfankcaaGreatQEpG
import Derived.Test.YtppbcopnfankcaaGreatQPeH
import Derived.Shelf.Spec.SlicesGrow
import Derived.Shelf.SlIter.Collect
import Derived.Shelf.SlSortCmp.Whole1
import Derived.Ground.SlsfProg
import Derived.Ground.Names8Prog
import Derived.Ground.GgzProg
import Derived.Test.YtppbcopnfankcaaGreatProg
set_option linter.unusedVariables false
set_option linter.unusedSimpArgs false
namespace Go.Proofs.YtppbcopnfankcaaGreat
open Go.RowKit
def rdyR (M O : ByteArray) (els hs : List ByteArray) : Int :=
 if (zc M && zc O && els.all zc && hs.all zc) = false then 3 else if chkK M O ≠ 0 then chkK M O else if els.all (fun x => hasN (num M) (num O) (num x)) = false then 13 else if memB hs ⟨#[]⟩ = true then 11 else 0
theorem rdy_zero {M O : ByteArray} {els hs : List ByteArray} (h : rdyR M O els hs = 0) : zc M = true ∧ zc O = true ∧ els.all zc = true ∧ hs.all zc = true ∧ chkK M O = 0 ∧ els.all (fun x => hasN (num M) (num O) (num x)) = true ∧ memB hs ⟨#[]⟩ = false := by
 unfold rdyR at h;by_cases h1 : (zc M && zc O && els.all zc && hs.all zc) = false
 · rw [if_pos h1] at h; cases h
 · rw [if_neg h1] at h;rw [Bool.not_eq_false, Bool.and_eq_true, Bool.and_eq_true, Bool.and_eq_true] at h1;by_cases h2 : chkK M O = 0
   · rw [if_neg (fun c => c h2)] at h
     cases h3 : els.all (fun x => hasN (num M) (num O) (num x)) with
     | false => rw [h3] at h; cases h
     | true =>
      rw [h3, if_neg (by decide)] at h
      cases h4 : memB hs ⟨#[]⟩ with
      | true => rw [h4] at h; cases h
      | false => exact ⟨h1.1.1.1, h1.1.1.2, h1.1.2, h1.2, h2, rfl, rfl⟩
   · rw [if_pos h2] at h; exact absurd h h2
def nzB (s : ByteArray) : Bool := !s.toList.isEmpty
theorem nzB_t {s : ByteArray} (h : nzB s = true) : s.toList.isEmpty = false := by unfold nzB at h; cases e : s.toList.isEmpty <;> simp_all
theorem nzB_f {s : ByteArray} (h : nzB s = false) : s.toList.isEmpty = true := by unfold nzB at h; cases e : s.toList.isEmpty <;> simp_all
theorem memB_nz (l : List ByteArray) : memB l ⟨#[]⟩ = !(l.all nzB) := by
 induction l with
 | nil => rfl
 | cons a l ih =>
  unfold memB at ih ⊢;rw [List.any_cons, List.all_cons, ih, Bool.not_and];congr 1;unfold nzB;rw [Bool.not_not];have e : (⟨#[]⟩ : ByteArray).toList = [] := by rw [ByteArray.toList_eq]
  rw [e];cases a.toList <;> rfl
theorem rdy_form {M O : ByteArray} {els hs : List ByteArray} (h : (zc M && zc O && els.all zc && hs.all zc) = false) : rdyR M O els hs = 3 := by unfold rdyR; rw [if_pos h]
theorem rdy_chk {M O : ByteArray} {els hs : List ByteArray} (h : (zc M && zc O && els.all zc && hs.all zc) = true) (h2 : chkK M O ≠ 0) : rdyR M O els hs = chkK M O := by unfold rdyR; rw [h, if_neg (by decide), if_pos h2]
theorem rdy_has {M O : ByteArray} {els hs : List ByteArray} (h : (zc M && zc O && els.all zc && hs.all zc) = true) (h2 : chkK M O = 0) (h3 : els.all (fun x => hasN (num M) (num O) (num x)) = false) : rdyR M O els hs = 13 := by unfold rdyR; rw [h, if_neg (by decide), if_neg (fun c => c h2), h3, if_pos rfl]
theorem rdy_nz {M O : ByteArray} {els hs : List ByteArray} (h : (zc M && zc O && els.all zc && hs.all zc) = true) (h2 : chkK M O = 0) (h3 : els.all (fun x => hasN (num M) (num O) (num x)) = true) : rdyR M O els hs = if hs.all nzB = true then 0 else 11 := by
 unfold rdyR;rw [h, if_neg (by decide), if_neg (fun c => c h2), h3, if_neg (by decide), memB_nz];cases hs.all nzB <;> rfl
theorem pr_one {M O a : ByteArray} (va : zc a = true) (hc : chkK M O = 0) (ha : hasN (num M) (num O) (num a) = true) {x : Int} (hx : x.natAbs < 256 ^ 128) :
 prR M O [a] [(decide (x < 0), nS x.natAbs)] = .tuple #[.string (nS (pz (num M) (num a) x)), .int .i64 0] := by
 unfold prR;rw [if_pos (show ckR M O [a] [(decide (x < 0), nS x.natAbs)] (decide ([a].length = [(decide (x < 0), nS x.natAbs)].length)) = 0 from zxt va (zdb hx) hc ha)];have e : prV (num M) [a] [(decide (x < 0), nS x.natAbs)] = pz (num M) (num a) x := by
  show zcm (num a) (decide (x < 0)) (num M) ^ (num (nS x.natAbs) / 2 ^ 0) * 1 % num M = _;rw [zaa, Nat.pow_zero, Nat.div_one, Nat.mul_one];rfl
 rw [e]
theorem memB_at {l : List ByteArray} {u x : ByteArray} {k : Nat} (he : l[k]? = some x) (h : (x.toList == u.toList) = true) : memB l u = true := by
 unfold memB;rw [List.any_eq_true];exact ⟨x, List.mem_of_getElem? he, by rw [eq_of_beq h]; simp⟩
theorem memB_none {l : List ByteArray} {u : ByteArray} (h : ∀ (i : Nat) x, l[i]? = some x → (x.toList == u.toList) = false) : memB l u = false := by
 unfold memB;rw [List.any_eq_false];intro y hy;obtain ⟨i, hi⟩ := List.getElem?_of_mem hy;have := h i y hi;intro hc;rw [eq_of_beq hc] at this;simp at this
def ikC (N M O Z S : ByteArray) (A : Option Addr) (n c : Nat) (U H : ByteArray) : Array Value := #[.string N, .string M, .string O, .string Z, .string S, .slice A n c, .string U, .string H]
set_option maxRecDepth 100000
set_option maxHeartbeats 2000000
open Go.RowKit
theorem ac_valid (l : List ByteArray) (A : Option Addr) (n c : Nat) (w : World) (hs : SlN w A n c l) (hz : SzL l) : Calls Tryz.prog 129 #[.slice A n c] w (Ret (.bool (l.all zc)) w) := by
 have HSN := Hq hs;have HNL := Hq hs.1;have hc1 := hs.2.1;have hc2 := hs.2.2.1;have HZZ := Hq hz;obtain ⟨R, hR⟩ := nm ((l.all zc));rw [hR];have HR := Hq hR;clear hs hz hR;go_enter Tryz.func129, Tryz.ntmps129;go_wp2;go_loopw [7] (fun i wr => ∃ k : Nat, k ≤ n ∧ i = .int .i64 k ∧ (l.take k).all zc = true ∧ Below w.heap.size w wr) (fun i _ => n - (intOf i).toNat);case atStart => exact ⟨0, Nat.zero_le _, rfl, by simp, Below.refl _ _⟩
 case round =>
  obtain ⟨k, hk, rfl, hall, hbb⟩ := hrel;have HB := Hq hbb;have HALL := Hq hall;clear hbb hall;by_cases hlt : k < n
  · obtain ⟨x, he⟩ : ∃ x, l[k]? = some x := ⟨_, List.getElem?_eq_getElem (by rw [HNL.out]; exact hlt)⟩;obtain ⟨b, o, rfl⟩ := HSN.out.head (by omega);have c0 := (HSN.out.kept HB.out (Nat.le_refl _)).get? k he;have HXS := Hq (HZZ.out x (List.mem_of_getElem? he));have HE := Hq he;clear he
    cases hv : zc x with
    | true =>
     have HV := Hq hv;skip;clear hv;go_wp2_with fail; refine (zh x HXS.out _).mono ?_; rintro e w2 ⟨rfl, rfl⟩; rw [HV.out];go_wp2;go_roundw;case rel => exact ⟨k + 1, by omega, by go_num, zad HALL.out HE.out HV.out, HB.out⟩
     case measure => simp [intOf]; omega
    | false =>
     have HV := Hq hv;have HRR := Hq (show R = false from by rw [← HR.out, qf HE.out hv]);skip;clear hv;go_wp2_with fail; refine (zh x HXS.out _).mono ?_; rintro e w2 ⟨rfl, rfl⟩; rw [HV.out];go_wp2;go_ret;exact ⟨by rw [HRR.out]; rfl, HB.out⟩
  · obtain rfl : k = n := by omega
    have HRR := Hq (show R = true from by rw [← HR.out, zbs HALL.out HNL.out]);go_wp2;go_ret;exact ⟨by rw [HRR.out]; rfl, HB.out⟩
theorem r35_valid (l : List ByteArray) (A : Option Addr) (n c : Nat) (w : World) (hs : SlN w A n c l) (hz : SzL l) : Calls Tryz.prog 100 #[.slice A n c] w (Ret (.bool (l.all zc)) w) := by
 have HSN := Hq hs;have HNL := Hq hs.1;have hc1 := hs.2.1;have hc2 := hs.2.2.1;have HZZ := Hq hz;obtain ⟨R, hR⟩ := nm ((l.all zc));rw [hR];have HR := Hq hR;clear hs hz hR;go_enter Tryz.func100, Tryz.ntmps100;go_wp2;go_loopw [3] (fun i wr => ∃ k : Nat, k ≤ n ∧ i = .int .i64 k ∧ (l.take k).all zc = true ∧ Below w.heap.size w wr) (fun i _ => n - (intOf i).toNat);case atStart => exact ⟨0, Nat.zero_le _, rfl, by simp, Below.refl _ _⟩
 case round =>
  obtain ⟨k, hk, rfl, hall, hbb⟩ := hrel;have HB := Hq hbb;have HALL := Hq hall;clear hbb hall;by_cases hlt : k < n
  · obtain ⟨x, he⟩ : ∃ x, l[k]? = some x := ⟨_, List.getElem?_eq_getElem (by rw [HNL.out]; exact hlt)⟩;obtain ⟨b, o, rfl⟩ := HSN.out.head (by omega);have c0 := (HSN.out.kept HB.out (Nat.le_refl _)).get? k he;have HXS := Hq (HZZ.out x (List.mem_of_getElem? he));have HE := Hq he;clear he
    cases hv : zc x with
    | true =>
     have HV := Hq hv;skip;clear hv;go_wp2_with fail; refine (zo x HXS.out _).mono ?_; rintro e w2 ⟨rfl, rfl⟩; rw [HV.out];go_wp2;go_roundw;case rel => exact ⟨k + 1, by omega, by go_num, zad HALL.out HE.out HV.out, HB.out⟩
     case measure => simp [intOf]; omega
    | false =>
     have HV := Hq hv;have HRR := Hq (show R = false from by rw [← HR.out, qf HE.out hv]);skip;clear hv;go_wp2_with fail; refine (zo x HXS.out _).mono ?_; rintro e w2 ⟨rfl, rfl⟩; rw [HV.out];go_wp2;go_ret;exact ⟨by rw [HRR.out]; rfl, HB.out⟩
  · obtain rfl : k = n := by omega
    have HRR := Hq (show R = true from by rw [← HR.out, zbs HALL.out HNL.out]);go_wp2;go_ret;exact ⟨by rw [HRR.out]; rfl, HB.out⟩
theorem r35_in (l : List ByteArray) (A : Option Addr) (n c : Nat) (u : ByteArray) (w : World) (hs : SlN w A n c l) : Calls Tryz.prog 103 #[.slice A n c, .string u] w (RetQ (.bool (memB l u)) w) := by
 have HSN := Hq hs;have HNL := Hq hs.1;have hc1 := hs.2.1;have hc2 := hs.2.2.1;obtain ⟨R, hR⟩ := nm (memB l u);rw [hR];have HR := Hq hR;clear hs hR;go_enter Tryz.func103, Tryz.ntmps103;go_wp2;go_loopw [5] (fun i wr => ∃ k : Nat, k ≤ n ∧ i = .int .i64 k ∧ (∀ (j : Nat) x, j < k → l[j]? = some x → (x.toList == u.toList) = false) ∧ wr = w) (fun i _ => n - (intOf i).toNat);case atStart => exact ⟨0, Nat.zero_le _, rfl, fun j x h => absurd h (Nat.not_lt_zero _), rfl⟩
 case round =>
  obtain ⟨k, hk, rfl, hall, hwr⟩ := hrel;have hwr := hwr.symm;subst hwr;have HALL := Hq hall;clear hall;by_cases hlt : k < n
  · obtain ⟨x, he⟩ : ∃ x, l[k]? = some x := ⟨_, List.getElem?_eq_getElem (by rw [HNL.out]; exact hlt)⟩;obtain ⟨b, o, rfl⟩ := HSN.out.head (by omega);have c9 := HSN.out.get? k he;have HE := Hq he;clear he
    cases hq : (x.toList == u.toList) with
    | true =>
     have HRR := Hq (show R = true from by rw [← HR.out]; exact memB_at HE.out hq);go_wp2;go_ret;exact ⟨by rw [HRR.out]; rfl, rfl⟩
    | false =>
     have HQ := Hq hq;go_wp2;go_roundw;case rel =>
      refine ⟨k + 1, by omega, by go_num, fun j y hj hy => ?_, (by first | rfl | trivial)⟩;rcases Nat.lt_or_ge j k with a | a
      · exact HALL.out j y a hy
      · obtain rfl : j = k := by omega
        rw [HE.out] at hy;cases hy;exact HQ.out
     case measure => simp [intOf]; omega
  · obtain rfl : k = n := by omega
    have HRR := Hq (show R = false from by rw [← HR.out]; exact memB_none (fun i x hi => HALL.out i x (by have := (List.getElem?_eq_some_iff.1 hi).1; have := HNL.out; omega) hi));go_wp2;go_ret;exact ⟨by rw [HRR.out]; rfl, rfl⟩
set_option maxRecDepth 100000
set_option maxHeartbeats 4000000
open Go.RowKit
theorem r35_ready (N M O Z S : ByteArray) (RA : Option Addr) (rn rc : Nat) (U H : ByteArray) (els hs : List ByteArray) (A B : Option Addr) (n c m d : Nat) (w : World) (hM : M.size ≤ 8) (hO : O.size ≤ 8)
 (hes : SlN w A n c els) (hn : n ≤ 1000) (hez : SzL els) (hhs : SlN w B m d hs) (hhz : SzL hs) :
 Calls Tryz.prog 61 #[.agg (ikC N M O Z S RA rn rc U H), .slice A n c, .slice B m d] w (Ret (.int .i64 (rdyR M O els hs)) w) := by
 have HSE := Hq hes;have HNL := Hq hes.1;have hcap := hes.2.1;have hcap2 := hes.2.2.1;have HFE := Hq (fun W (hb : Below w.heap.size w W) => r35_valid els A n c W (hes.kept hb (Nat.le_refl _)) hez);have HFH := Hq (fun W (hb : Below w.heap.size w W) => r35_valid hs B m d W (hhs.kept hb (Nat.le_refl _)) hhz);have HZH := Hq (fun W (hb : Below w.heap.size w W) => r35_in hs B m d ⟨#[]⟩ W (hhs.kept hb (Nat.le_refl _)));have HVM := Hq (zo M (by omega));have HVO := Hq (zo O (by omega));obtain ⟨RR, hRR⟩ := nm (rdyR M O els hs);rw [hRR];have HRR := Hq hRR;have HCK := Hq (zfb M O hM hO);have HHS := Hq (fun x hx => zq8 M O x hM hO hx);unfold gV at HCK HHS;obtain ⟨W0, hW0⟩ := nm (w.alloc (.cells (ikC N M O Z S RA rn rc U H) 27));have hx0 : BxC W0 w.heap.size (ikC N M O Z S RA rn rc U H) 27 := by rw [← hW0]; exact BxC.new _ _ _
 have hb0 : Below w.heap.size w W0 := by rw [← hW0]; exact (Below.refl _ _).alloc (Nat.le_refl _) _
 have HX0 := Hq hx0;have HB0 := Hq hb0;have hx := hx0;have k1 : W0.cell? ⟨w.heap.size, 1, none⟩ = some (.string M) := hx.cell 1;have k2 : W0.cell? ⟨w.heap.size, 2, none⟩ = some (.string O) := hx.cell 2;clear hx;clear hes hRR hez hx0 hb0 hM hO hhs hhz;unfold ikC at hW0 ⊢;unfold ikC at HX0;go_enter Tryz.func61, Tryz.ntmps61;go_wp2_with fail;try rw [hW0]
 clear hW0 k1 k2;refine (HFE.out _ HB0.out).mono ?_;rintro e w1 ⟨rfl, hb⟩;have HX1 := Hq (HX0.out.next hb);have HB1 := bt HB0 hb;clear hb
 cases hv3 : els.all zc with
 | false =>
  have HR3 := Hq (show RR = 3 from by rw [← HRR.out]; exact rdy_form (by rw [hv3]; simp));clear hv3;go_wp2;go_ret;exact ⟨by rw [HR3.out]; rfl, HB1.out⟩
 | true =>
  have HV3 := Hq hv3;have HEV := Hq (List.all_eq_true.1 hv3);clear hv3;go_wp2_with fail;refine (HFH.out _ HB1.out).mono ?_;rintro e w2 ⟨rfl, hb⟩;have HX2 := Hq (HX1.out.next hb);have HB2 := bt HB1 hb;clear hb
  cases hv4 : hs.all zc with
  | false =>
   have HR3 := Hq (show RR = 3 from by rw [← HRR.out]; exact rdy_form (by rw [hv4]; simp));clear hv4;go_wp2;go_ret;exact ⟨by rw [HR3.out]; rfl, HB2.out⟩
  | true =>
   have HV4 := Hq hv4;clear hv4;have hx := HX2.out;have k1 : w2.cell? ⟨w.heap.size, 1, none⟩ = some (.string M) := hx.cell 1;have k2 : w2.cell? ⟨w.heap.size, 2, none⟩ = some (.string O) := hx.cell 2;clear hx;go_wp2_with fail;refine (HVM.out _).mono ?_;rintro e w3 ⟨rfl, rfl⟩
   cases hv1 : zc M with
   | false =>
    have HR3 := Hq (show RR = 3 from by rw [← HRR.out]; exact rdy_form (by rw [hv1]; rfl));clear hv1;go_wp2;go_ret;exact ⟨by rw [HR3.out]; rfl, HB2.out⟩
   | true =>
    have HV1 := Hq hv1;clear hv1;go_wp2_with fail;refine (HVO.out _).mono ?_;rintro e w3 ⟨rfl, rfl⟩
    cases hv2 : zc O with
    | false =>
     have HR3 := Hq (show RR = 3 from by rw [← HRR.out]; exact rdy_form (by rw [HV1.out, hv2]; rfl));clear hv2;go_wp2;go_ret;exact ⟨by rw [HR3.out]; rfl, HB2.out⟩
    | true =>
     have HFT := Hq (show (zc M && zc O && els.all zc && hs.all zc) = true from by rw [HV1.out, hv2, HV3.out, HV4.out]; rfl);clear hv2;by_cases hc : chkK M O = 0
     · have HCC := Hq hc;rw [hc] at HCK;have HRZ := Hq (fun h3 => (HRR.out.symm.trans (rdy_nz HFT.out hc h3)));have HRH := Hq (fun h3 => (HRR.out.symm.trans (rdy_has HFT.out hc h3)));clear hc;go_wp2_with fail;refine (HCK.out _).mono ?_;rintro e w5 ⟨rfl, hb⟩;have HX5 := Hq (HX2.out.next hb);have HB5 := bt HB2 hb;clear hb k1 k2;go_wp2;go_loopw [8] (fun i wr => ∃ k : Nat, k ≤ n ∧ i = .int .i64 k ∧ (els.take k).all (fun x => hasN (num M) (num O) (num x)) = true ∧ Below w5.heap.size w5 wr) (fun i _ => n - (intOf i).toNat);case atStart => exact ⟨0, Nat.zero_le _, rfl, by simp, Below.refl _ _⟩
       case round =>
        obtain ⟨k, hk, rfl, hall, hbb⟩ := hrel;have HB := Hq hbb;have HALL := Hq hall;clear hbb hall;by_cases hlt : k < n
        · obtain ⟨x, he⟩ : ∃ x, els[k]? = some x := ⟨_, List.getElem?_eq_getElem (by rw [HNL.out]; exact hlt)⟩;obtain ⟨eb, eo, rfl⟩ := HSE.out.head (by omega);have hbr := HB5.out.trans (HB.out.mono HB5.out.size);have HBR := Hq hbr;have hv := HEV.out x (List.mem_of_getElem? he);have HH := Hq (HHS.out x hv);have hk2 : hasK M O x = hasN (num M) (num O) (num x) := by unfold hasK; rw [hv, decide_eq_true HCC.out]; simp
          rw [hk2] at HH;have HE := Hq he;obtain ⟨wd, hwd⟩ := nm (wr.drew);have c0 : wd.cell? ⟨eb, eo + k, none⟩ = some (.string x) := by rw [← hwd]; exact (HSE.out.kept hbr.drew (Nat.le_refl _)).get? k he
          have HBD := Hq (show Below w.heap.size w wd from by rw [← hwd]; exact hbr.drew);have HBW := Hq (show Below w5.heap.size w5 wd from by rw [← hwd]; exact HB.out.drew);have hxd : BxC wd w.heap.size #[.string N, .string M, .string O, .string Z, .string S, .slice RA rn rc, .string U, .string H] 27 := by rw [← hwd]; exact HX5.out.next HB.out.drew
          have hx := hxd;have k1 : wd.cell? ⟨w.heap.size, 1, none⟩ = some (.string M) := hx.cell 1;have k2 : wd.cell? ⟨w.heap.size, 2, none⟩ = some (.string O) := hx.cell 2;clear hx;clear he hbr hv hk2 hxd
          cases hh : hasN (num M) (num O) (num x) with
          | true =>
           have HHV := Hq hh;rw [hh] at HH;clear hh;go_wp2;refine za 8 (Below (wd).heap.size (wd)) (by kernel_rfl) ?_;rw [hwd];refine rPs 0 43 7 (Below.refl _ _) ?_;refine rTs 1 44 6 (Below.refl _ _) (k3 c0 k1 k2) ?_;refine rPs 2 45 5 (Below.refl _ _) ?_;refine rPs 3 46 4 (Below.refl _ _) ?_;refine rPs 4 47 3 (Below.refl _ _) ?_;refine rTs 5 48 2 (Below.refl _ _) (k3 c0 k1 k2) ?_;refine rO 6 1 ?_; intro K6 hK6;go_wp2_with fail;refine (HH.out _).mono ?_;rintro ev w6 ⟨rfl, hb⟩;have HB6 := Hq hb;clear hb;go_wp2;refine hK6 _ _ (by exact HB6.out) ?_; clear hK6; intro hS_9_6;refine rPs 7 50 0 hS_9_6 ?_;refine wDn ?_;clear c0 k1 k2;have HB7 := bt HBW HB6.out;go_wp2;go_roundw;case rel => exact ⟨k + 1, by omega, by go_num, zad HALL.out HE.out HHV.out, HB7.out⟩
           case measure => simp [intOf]; omega
          | false =>
           have HR13 := Hq (show RR = 13 from HRH.out (qf HE.out hh));rw [hh] at HH;clear hh;go_wp2;refine za 8 (Below (wd).heap.size (wd)) (by kernel_rfl) ?_;rw [hwd];refine rPs 0 43 7 (Below.refl _ _) ?_;refine rTs 1 44 6 (Below.refl _ _) (k3 c0 k1 k2) ?_;refine rPs 2 45 5 (Below.refl _ _) ?_;refine rPs 3 46 4 (Below.refl _ _) ?_;refine rPs 4 47 3 (Below.refl _ _) ?_;refine rTs 5 48 2 (Below.refl _ _) (k3 c0 k1 k2) ?_;refine rO 6 1 ?_; intro K6 hK6;go_wp2_with fail;refine (HH.out _).mono ?_;rintro ev w6 ⟨rfl, hb⟩;have HB6 := Hq hb;clear hb;go_wp2;refine hK6 _ _ (by exact HB6.out) ?_; clear hK6; intro hS_9_6;refine rPs 7 50 0 hS_9_6 ?_;refine wDn ?_;clear c0 k1 k2;have HB7 := bt HBD HB6.out;go_wp2;go_ret;exact ⟨by rw [HR13.out]; rfl, HB7.out⟩
        · obtain rfl : k = n := by omega
          have HRN := Hq (HRZ.out (zbs HALL.out HNL.out));have hbr := HB5.out.trans (HB.out.mono HB5.out.size);have HBR := Hq hbr;have HNZ := Hq (HZH.out wr hbr);clear hbr
          cases hz : memB hs ⟨#[]⟩ with
          | false =>
           have HR3 := Hq (show RR = 0 from HRN.out.trans (by rw [memB_nz, Bool.not_eq_false'] at hz; rw [hz]; rfl));rw [hz] at HNZ;clear hz;go_wp2_with fail;refine HNZ.out.mono ?_;rintro e w6 ⟨rfl, rfl⟩;go_wp2;go_ret;exact ⟨by rw [HR3.out]; rfl, HBR.out⟩
          | true =>
           have HR3 := Hq (show RR = 11 from HRN.out.trans (by rw [memB_nz, Bool.not_eq_true'] at hz; rw [hz]; rfl));rw [hz] at HNZ;clear hz;go_wp2_with fail;refine HNZ.out.mono ?_;rintro e w6 ⟨rfl, rfl⟩;go_wp2;go_ret;exact ⟨by rw [HR3.out]; rfl, HBR.out⟩
     · have HRC := Hq (show RR = chkK M O from by rw [← HRR.out]; exact rdy_chk HFT.out hc);obtain ⟨v, hv⟩ := nm (chkK M O);have hvb : (v != 0) = true := by rw [bne_iff_ne, ← hv]; exact hc
       rw [hv] at HCK HRC;clear hc hv;go_wp2_with fail;refine (HCK.out _).mono ?_;rintro e w5 ⟨rfl, hb⟩;have HB5 := bt HB2 hb;clear hb k1 k2;go_wp2;go_ret;exact ⟨by rw [HRC.out]; rfl, HB5.out⟩
set_option maxRecDepth 100000
set_option maxHeartbeats 4000000
open Go.RowKit
theorem ac_ready (M O : ByteArray) (els hs : List ByteArray) (A B : Option Addr) (n c m d : Nat) (w : World) (hM : M.size ≤ 8) (hO : O.size ≤ 8)
 (hes : SlN w A n c els) (hez : SzL els) (hhs : SlN w B m d hs) (hhz : SzL hs) :
 Calls Tryz.prog 82 #[gV M O, .slice A n c, .slice B m d] w (Ret (.int .i64 (rdyR M O els hs)) w) := by
 have HSE := Hq hes;have HNL := Hq hes.1;have hcap := hes.2.1;have hcap2 := hes.2.2.1;have HSH := Hq hhs;have HNH := Hq hhs.1;have hcap3 := hhs.2.1;have hcap4 := hhs.2.2.1;have HFE := Hq (fun W (hb : Below w.heap.size w W) => ac_valid els A n c W (hes.kept hb (Nat.le_refl _)) hez);have HFH := Hq (fun W (hb : Below w.heap.size w W) => ac_valid hs B m d W (hhs.kept hb (Nat.le_refl _)) hhz);have HFG := Hq (fun W => ac_valid [M, O] (some ⟨W.heap.size, 0, none⟩) 2 2 (W.alloc (.cells #[.string M, .string O] 22)) (jc W [M, O] 22 (by simp)) (by intro s hs; simp only [List.mem_cons, List.mem_nil_iff, or_false] at hs; rcases hs with rfl | rfl <;> omega));have HAL := Hq (show [M, O].all zc = (zc M && zc O) from by simp);obtain ⟨RR, hRR⟩ := nm (rdyR M O els hs);rw [hRR];have HRR := Hq hRR;have HCK := Hq (zi0 M O hM hO);have HHS := Hq (fun x hx => zvs M O x hM hO hx);unfold gV at HCK HHS ⊢;obtain ⟨W0, hW0⟩ := nm (w.alloc (.cells #[.string M, .string O] 24));have hx0 : Bx2 W0 w.heap.size (.string M) (.string O) 24 := by rw [← hW0]; exact Bx2.new _ _ _ _
 have hb0 : Below w.heap.size w W0 := by rw [← hW0]; exact (Below.refl _ _).alloc (Nat.le_refl _) _
 have HX0 := Hq hx0;have HB0 := Hq hb0;clear hes hRR hez hx0 hb0 hM hO hhs hhz;go_enter Tryz.func82, Tryz.ntmps82;go_wp2_with fail;try rw [hW0]
 clear hW0;refine (HFE.out _ HB0.out).mono ?_;rintro e w1 ⟨rfl, hb⟩;have HX1 := Hq (HX0.out.next hb);have HB1 := bt HB0 hb;clear hb
 cases hv3 : els.all zc with
 | false =>
  have HR3 := Hq (show RR = 3 from by rw [← HRR.out]; exact rdy_form (by rw [hv3]; simp));clear hv3;go_wp2;go_ret;exact ⟨by rw [HR3.out]; rfl, HB1.out⟩
 | true =>
  have HV3 := Hq hv3;have HEV := Hq (List.all_eq_true.1 hv3);clear hv3;go_wp2_with fail;refine (HFH.out _ HB1.out).mono ?_;rintro e w2 ⟨rfl, hb⟩;have HX2 := Hq (HX1.out.next hb);have HB2 := bt HB1 hb;clear hb
  cases hv4 : hs.all zc with
  | false =>
   have HR3 := Hq (show RR = 3 from by rw [← HRR.out]; exact rdy_form (by rw [hv4]; simp));clear hv4;go_wp2;go_ret;exact ⟨by rw [HR3.out]; rfl, HB2.out⟩
  | true =>
   have HV4 := Hq hv4;clear hv4;have c0 := HX2.out.c0;have c1 := HX2.out.c1;have hba : Below w2.heap.size w2 (w2.alloc (.cells #[.string M, .string O] 22)) := (Below.refl _ _).alloc (Nat.le_refl _) _;have HX3 := Hq (HX2.out.next hba);have HB3 := bt HB2 hba;have HFG2 := Hq (HFG.out w2);rw [HAL.out] at HFG2;clear hba;go_wp2_with fail;refine (show Calls _ _ _ _ _ from HFG2.out).mono ?_;rintro e w4 ⟨rfl, hb⟩;have HX4 := Hq (HX3.out.next hb);have HB4 := bt HB3 hb;clear hb c0 c1
   cases hv1 : (zc M && zc O) with
   | false =>
    have HR3 := Hq (show RR = 3 from by rw [← HRR.out]; exact rdy_form (by rw [hv1]; rfl));clear hv1;go_wp2;go_ret;exact ⟨by rw [HR3.out]; rfl, HB4.out⟩
   | true =>
    have HFT := Hq (show (zc M && zc O && els.all zc && hs.all zc) = true from by rw [hv1, HV3.out, HV4.out]; rfl);clear hv1;have c0 := HX4.out.c0;have c1 := HX4.out.c1;by_cases hc : chkK M O = 0
    · have HCC := Hq hc;rw [hc] at HCK;have HRZ := Hq (fun h3 => (HRR.out.symm.trans (rdy_nz HFT.out hc h3)));have HRH := Hq (fun h3 => (HRR.out.symm.trans (rdy_has HFT.out hc h3)));clear hc;go_wp2_with fail;refine (HCK.out _).mono ?_;rintro e w5 ⟨rfl, hb⟩;have HX5 := Hq (HX4.out.next hb);have HB5 := bt HB4 hb;clear hb c0 c1;go_wp2;go_loopw [36] (fun i wr => ∃ k : Nat, k ≤ n ∧ i = .int .i64 k ∧ (els.take k).all (fun x => hasN (num M) (num O) (num x)) = true ∧ Below w5.heap.size w5 wr) (fun i _ => n - (intOf i).toNat);case atStart => exact ⟨0, Nat.zero_le _, rfl, by simp, Below.refl _ _⟩
      case round =>
       obtain ⟨k, hk, rfl, hall, hbb⟩ := hrel;have HB := Hq hbb;have HALL := Hq hall;clear hbb hall;by_cases hlt : k < n
       · obtain ⟨x, he⟩ : ∃ x, els[k]? = some x := ⟨_, List.getElem?_eq_getElem (by rw [HNL.out]; exact hlt)⟩;obtain ⟨eb, eo, rfl⟩ := HSE.out.head (by omega);have hbr := HB5.out.trans (HB.out.mono HB5.out.size);have e0 := (HSE.out.kept hbr (Nat.le_refl _)).get? k he;have hxr := HX5.out.next HB.out;have c0 := hxr.c0;have c1 := hxr.c1;have hv := HEV.out x (List.mem_of_getElem? he);have HH := Hq (HHS.out x hv);have HBR := Hq hbr;have hk2 : hasK M O x = hasN (num M) (num O) (num x) := by unfold hasK; rw [hv, decide_eq_true HCC.out]; simp
         rw [hk2] at HH;have HE := Hq he;clear he hbr hxr hv hk2
         cases hh : hasN (num M) (num O) (num x) with
         | true =>
          have HHV := Hq hh;rw [hh] at HH;clear hh;go_wp2_with fail;refine (HH.out _).mono ?_;rintro e w6 ⟨rfl, hb⟩;have HB6 := bt HB hb;clear hb e0 c0 c1;go_wp2;go_roundw;case rel => exact ⟨k + 1, by omega, by go_num, zad HALL.out HE.out HHV.out, HB6.out⟩
          case measure => simp [intOf]; omega
         | false =>
          have HR3 := Hq (show RR = 13 from HRH.out (qf HE.out hh));rw [hh] at HH;clear hh;go_wp2_with fail;refine (HH.out _).mono ?_;rintro e w6 ⟨rfl, hb⟩;have HB6 := bt HBR hb;clear hb e0 c0 c1;go_wp2;go_ret;exact ⟨by rw [HR3.out]; rfl, HB6.out⟩
       · obtain rfl : k = n := by omega
         have HRN := Hq (HRZ.out (zbs HALL.out HNL.out));obtain ⟨V, hV⟩ : ∃ V, V = wr := ⟨_, rfl⟩;subst hV;have HBR := bt HB5 HB.out;clear hlt hk HB;go_wp2;go_loopw [47] (fun i wr => ∃ k : Nat, k ≤ m ∧ i = .int .i64 k ∧ (hs.take k).all nzB = true ∧ Below w.heap.size w wr) (fun i _ => m - (intOf i).toNat);case atStart => exact ⟨0, Nat.zero_le _, rfl, by simp, HBR.out⟩
         case round =>
          obtain ⟨j, hj, rfl, hall, hbb⟩ := hrel;have HB := Hq hbb;have HALL2 := Hq hall;clear hbb hall;by_cases hlt2 : j < m
          · obtain ⟨x, he⟩ : ∃ x, hs[j]? = some x := ⟨_, List.getElem?_eq_getElem (by rw [HNH.out]; exact hlt2)⟩;obtain ⟨hb', ho', rfl⟩ := HSH.out.head (by omega);have e0 := (HSH.out.kept HB.out (Nat.le_refl _)).get? j he;have HE := Hq he;clear he
            cases hv : nzB x with
            | true =>
             have HV := Hq hv;have he := nzB_t hv;clear hv;go_wp2;go_roundw;case rel => exact ⟨j + 1, by omega, by go_num, zad HALL2.out HE.out HV.out, HB.out⟩
             case measure => simp [intOf]; omega
            | false =>
             have HR3 := Hq (show RR = 11 from HRN.out.trans (by rw [qf HE.out hv]; rfl));have he := nzB_f hv;clear hv;go_wp2;go_ret;exact ⟨by rw [HR3.out]; rfl, HB.out⟩
          · obtain rfl : j = m := by omega
            have HR3 := Hq (show RR = 0 from HRN.out.trans (by rw [zbs HALL2.out HNH.out]; rfl));go_wp2;go_ret;exact ⟨by rw [HR3.out]; rfl, HB.out⟩
    · have HR3 := Hq (show RR = chkK M O from by rw [← HRR.out]; exact rdy_chk HFT.out hc);obtain ⟨v, hv⟩ := nm (chkK M O);have hvb : (v != 0) = true := by rw [bne_iff_ne, ← hv]; exact hc
      rw [hv] at HCK HR3;clear hc hv;go_wp2_with fail;refine (HCK.out _).mono ?_;rintro e w5 ⟨rfl, hb⟩;have HB5 := bt HB4 hb;clear hb c0 c1;go_wp2;go_ret;exact ⟨by rw [HR3.out]; rfl, HB5.out⟩
end Go.Proofs.YtppbcopnfankcaaGreat
/-
 DERIVED: THE SHELF's CONTRACTS AT THIS DUMP, IN PLAIN WORDS (tools/lay-plain.mjs out of 'TryShel2.lean', which tools/lay-shelf.mjs wrote): THE SAME DECLARATIONS UNDER THE SAME NAMES: 'import', 'namespace', 'open', 'def', 'theorem' AND NOTHING ELSE: no command of the shelf's: FOR A HAND-IN. Each laying: the table of numbers ('.._ren') and one theorem, a field a fact of the dump's own or the kernel's comparison; each contract: ONE APPLICATION.
-/
namespace Go.Proofs
open Go.Shelf
def Tryz.sortN_ren : Go.Shelf.Ren := ⟨fun | 6 => 81 | 15 => 128 | 14 => 127 | 28 => 192 | 29 => 193 | 20 => 184 | 21 => 185 | 22 => 186 | 23 => 187 | 24 => 188 | 25 => 189 | 26 => 190 | 27 => 191 | 46 => 230 | 47 => 231 | 48 => 232 | 49 => 233 | 50 => 234 | 57 => 259 | n => n, fun | 22 => 25 | 24 => 22 | 25 => 108 | 3 => 3 | 39 => 136 | 0 => 0 | 53 => 131 | 55 => 113 | 4 => 4 | 46 => 221 | 45 => 220 | 50 => 225 | 5 => 5 | 9 => 9 | 66 => 249 | 70 => 253 | 76 => 274 | 77 => 42 | n => n, fun | n => n⟩
theorem Tryz.sortN : Go.Proofs.SlLaysF.n6 Tryz.prog Tryz.sortN_ren := {
 mixed := by kernel_rfl
 f6 := ⟨Tryz.f81.name, by decide, Tryz.func81.trans (congrArg some (by kernel_rfl))⟩
 f14 := ⟨Tryz.f127.name, by decide, Tryz.func127.trans (congrArg some (by kernel_rfl))⟩
 f15 := Tryz.func128.trans (congrArg some (by kernel_rfl))
 f20 := ⟨Tryz.f184.name, by decide, Tryz.func184.trans (congrArg some (by kernel_rfl))⟩
 f21 := ⟨Tryz.f185.name, by decide, Tryz.func185.trans (congrArg some (by kernel_rfl))⟩
 f22 := ⟨Tryz.f186.name, by decide, Tryz.func186.trans (congrArg some (by kernel_rfl))⟩
 f23 := ⟨Tryz.f187.name, by decide, Tryz.func187.trans (congrArg some (by kernel_rfl))⟩
 f24 := ⟨Tryz.f188.name, by decide, Tryz.func188.trans (congrArg some (by kernel_rfl))⟩
 f25 := ⟨Tryz.f189.name, by decide, Tryz.func189.trans (congrArg some (by kernel_rfl))⟩
 f26 := ⟨Tryz.f190.name, by decide, Tryz.func190.trans (congrArg some (by kernel_rfl))⟩
 f27 := ⟨Tryz.f191.name, by decide, Tryz.func191.trans (congrArg some (by kernel_rfl))⟩
 f28 := Tryz.func192.trans (congrArg some (by kernel_rfl))
 f29 := Tryz.func193.trans (congrArg some (by kernel_rfl))
 f46 := ⟨Tryz.f230.name, by decide, Tryz.func230.trans (congrArg some (by kernel_rfl))⟩
 f47 := Tryz.func231.trans (congrArg some (by kernel_rfl))
 f48 := Tryz.func232.trans (congrArg some (by kernel_rfl))
 f49 := ⟨Tryz.f233.name, by decide, Tryz.func233.trans (congrArg some (by kernel_rfl))⟩
 f50 := ⟨Tryz.f234.name, by decide, Tryz.func234.trans (congrArg some (by kernel_rfl))⟩
 f57 := ⟨Tryz.f259.name, by decide, Tryz.func259.trans (congrArg some (by kernel_rfl))⟩
 t0 := Tryz.underlying0
 a0 := Tryz.isAgg0
 z0 := Tryz.sizeOf0
 v0 := Tryz.zeroValue0
 t3 := Tryz.underlying3
 a3 := Tryz.isAgg3
 z3 := Tryz.sizeOf3
 v3 := Tryz.zeroValue3
 t4 := Tryz.underlying4
 a4 := Tryz.isAgg4
 z4 := Tryz.sizeOf4
 v4 := Tryz.zeroValue4
 t5 := Tryz.underlying5
 a5 := Tryz.isAgg5
 z5 := Tryz.sizeOf5
 v5 := Tryz.zeroValue5
 t9 := Tryz.underlying9
 a9 := Tryz.isAgg9
 z9 := Tryz.sizeOf9
 v9 := Tryz.zeroValue9
 t22 := Tryz.underlying25
 a22 := Tryz.isAgg25
 z22 := Tryz.sizeOf25
 v22 := Tryz.zeroValue25
 a24 := Tryz.isAgg22
 z24 := Tryz.sizeOf22
 t25 := Tryz.underlying108
 a25 := Tryz.isAgg108
 z25 := Tryz.sizeOf108
 v25 := Tryz.zeroValue108
 t39 := Tryz.underlying136
 a39 := Tryz.isAgg136
 z39 := Tryz.sizeOf136
 v39 := Tryz.zeroValue136
 t45 := Tryz.underlying220
 a45 := Tryz.isAgg220
 z45 := Tryz.sizeOf220
 v45 := Tryz.zeroValue220
 t46 := Tryz.underlying221
 a46 := Tryz.isAgg221
 z46 := Tryz.sizeOf221
 v46 := Tryz.zeroValue221
 t50 := Tryz.underlying225
 a50 := Tryz.isAgg225
 z50 := Tryz.sizeOf225
 v50 := Tryz.zeroValue225
 t53 := Tryz.underlying131
 a53 := Tryz.isAgg131
 z53 := Tryz.sizeOf131
 v53 := Tryz.zeroValue131
 t55 := Tryz.underlying113
 a55 := Tryz.isAgg113
 z55 := Tryz.sizeOf113
 v55 := Tryz.zeroValue113
 t66 := Tryz.underlying249
 a66 := Tryz.isAgg249
 z66 := Tryz.sizeOf249
 v66 := Tryz.zeroValue249
 t70 := Tryz.underlying253
 a70 := Tryz.isAgg253
 z70 := Tryz.sizeOf253
 v70 := Tryz.zeroValue253
 t76 := Tryz.underlying274
 a76 := Tryz.isAgg274
 z76 := Tryz.sizeOf274
 v76 := Tryz.zeroValue274
 t77 := Tryz.underlying42
 a77 := Tryz.isAgg42
 z77 := Tryz.sizeOf42
 v77 := Tryz.zeroValue42 }
end Go.Proofs

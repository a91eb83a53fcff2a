import Derived.Test.YtfbmbledklbfgaaGreatQMkC
set_option linter.unusedVariables false
set_option linter.unusedSimpArgs false
namespace Go.Proofs.YtfbmbledklbfgaaGreat
set_option maxRecDepth 100000
set_option maxHeartbeats 4000000
open Go.RowKit
theorem rootL_size'(l:List ByteArray):(rootL l).size=32:=by
 have h:∀(f:Nat) (l:List ByteArray),(rootF f l).size=32:=by
  intro f
  induction f with
  | zero=>intro l;unfold rootF;rw[bstr_size,shaL_length]
  | succ f ih =>
   intro l;unfold rootF;split
   · rw[bstr_size,shaL_length]
   · split
     · unfold leafH;rw[bstr_size,shaL_length]
     · unfold nodeH;rw[bstr_size,shaL_length]
 exact h _ _
theorem m_Root:∀(f:Nat) (l:List ByteArray) (A:Option Addr) (n c:Nat) (w:World),l.length≤f→n≤4096→(∀ s∈l,s.size≤1000000)→SlN w A n c l→Calls Tryz.prog 36 #[.slice A n c] w (Ret (.string (rootL l)) w):=by
 intro f
 induction f with
 | zero =>
  intro l A n c w hf hn hsz hs;have hl:l=[]:=List.length_eq_zero_iff.1 (by omega);subst hl;obtain rfl:n=0:=hs.1.symm;have HS:=Hq (h_Sum ⟨#[]⟩ (by decide) w);rw[show (⟨#[]⟩:ByteArray).data.toList=[]from rfl]at HS;have HR:=Hq rootL_nil;clear hs hsz;go_enter Tryz.func36,Tryz.ntmps36;go_wp2_with fail;refine HS.out.mono ?_;rintro e w1 ⟨rfl,hb⟩;have HB:=Hq hb;clear hb;go_wp2;go_ret;exact⟨by rw[HR.out];rfl,HB.out⟩
 | succ f ih =>
  intro l A n c w hf hn hsz hs;have hcap:=hs.2.1;have hcap2:=hs.2.2.1;have HLEN:=Hq hs.1;rcases Nat.lt_or_ge n 2 with h2 | h2
  · rcases Nat.lt_or_ge n 1 with h1 | h1
    · have hl:l=[]:=List.length_eq_zero_iff.1 (by have:=hs.1;omega);subst hl;obtain rfl:n=0:=hs.1.symm;have HS:=Hq (h_Sum ⟨#[]⟩ (by decide) w);rw[show (⟨#[]⟩:ByteArray).data.toList=[]from rfl]at HS;have HR:=Hq rootL_nil;clear hs hsz ih;go_enter Tryz.func36,Tryz.ntmps36;go_wp2_with fail;refine HS.out.mono ?_;rintro e w1 ⟨rfl,hb⟩;have HB:=Hq hb;clear hb;go_wp2;go_ret;exact⟨by rw[HR.out];rfl,HB.out⟩
    · obtain rfl:n=1:=by omega
      obtain⟨x,hx⟩:∃ x,l=[x]:=List.length_eq_one_iff.1 hs.1;subst hx;obtain⟨b,o,rfl⟩:=hs.head (by omega);have hc0:w.cell? ⟨b,o,none⟩=some (.string x):=hs.get? 0 rfl;have HS:=Hq (m_leaf x (by have:=hsz x (by simp);omega) w);have HR:=Hq (rootL_one x);clear hs hsz ih;go_enter Tryz.func36,Tryz.ntmps36;go_wp2_with fail;refine HS.out.mono ?_;rintro e w1 ⟨rfl,hb⟩;have HB:=Hq hb;clear hb;go_wp2;go_ret;exact⟨by rw[HR.out];rfl,HB.out⟩
  · obtain⟨b,o,rfl⟩:=hs.head (by omega);have HR:=Hq (rootL_more (l:=l) (by have:=hs.1;omega));have HH:=Hq (m_half n h2 (by omega));have hk1:=halfN_pos n;have hk2:=halfN_lt h2;rw[HLEN.out]at HR;obtain⟨k,hk⟩:∃ k,halfN n=k:=⟨_,rfl⟩;rw[hk]at HR HH hk1 hk2;have HS1:=Hq (fun W (hb:Below w.heap.size w W)=>ih (l.take k) (some ⟨b,o,none⟩) k c W (by rw[List.length_take];have:=HLEN.out;omega) (by omega) (fun s h=>hsz s (List.mem_of_mem_take h)) ((hs.takeK k (by omega)).kept hb nlr));have HS2:=Hq (fun W (hb:Below w.heap.size w W)=>ih (l.drop k) (some ⟨b,o+k,none⟩) (n - k) (c - k) W (by rw[List.length_drop];have:=HLEN.out;omega) (by omega) (fun s h=>hsz s (List.mem_of_mem_drop h)) ((hs.dropK k (by omega)).kept hb nlr));have HN:=Hq (m_node (rootL (l.take k)) (rootL (l.drop k)) (by rw[rootL_size'];omega) (by rw[rootL_size'];omega));rw[←HR.out]at HN;obtain⟨r1,hr1⟩:∃ r,rootL (l.take k)=r:=⟨_,rfl⟩;obtain⟨r2,hr2⟩:∃ r,rootL (l.drop k)=r:=⟨_,rfl⟩;obtain⟨r,hr⟩:∃ r,rootL l=r:=⟨_,rfl⟩;rw[hr1]at HS1;rw[hr2]at HS2;rw[hr1,hr2,hr]at HN;rw[hr];have hkc:k≤c:=by omega
    have hkn:k≤n:=by omega
    have hck:¬ c=k:=by omega
    clear hs hsz ih hk hr1 hr2 hr HR hf;go_enter Tryz.func36,Tryz.ntmps36;go_wp2_with fail;refine(HH.out _).mono ?_;rintro e w1 ⟨rfl,rfl⟩;go_wp2;refine wp_region_K 10 (Below (w.drew).heap.size (w.drew)) (by kernel_rfl) ?_;intro hD;refine rP 0 18 9 rfl hD blr ?_;clear hD;intro hD;refine rP 1 19 8 rfl hD blr ?_;clear hD;intro hD;refine rP 2 20 7 rfl hD blr ?_;clear hD;intro hD;refine rP 4 22 6 rfl hD blr ?_;clear hD;intro hD;refine rP 5 23 5 rfl hD blr ?_;clear hD;intro hD;refine rP 6 24 4 rfl hD blr ?_;clear hD;intro hD;simp only[Act.put,sqA,sqB,sqC];refine rO 3 3 rfl hD ?_;clear hD;intro K3 hK3;go_wp2_with fail;refine(HS1.out _ ((blr).drew)).mono ?_;rintro ev w2 ⟨rfl,hb⟩;have HB3:=Hq hb;clear hb;go_wp2;refine hK3 _ _ (by exact HB3.out) ?_;clear hK3;intro hS_7_3 hD;refine rO 7 2 rfl hD ?_;clear hD;intro K7 hK7;go_wp2_with fail;refine(HS2.out _ (((blr).drew).trans (hS_7_3.mono nlr))).mono ?_;rintro ev w3 ⟨rfl,hb⟩;have HB7:=Hq hb;clear hb;go_wp2;refine hK7 _ _ (by exact Below.trans hS_7_3 (Below.mono HB7.out (Below.size hS_7_3))) ?_;clear hK7;intro hS_7_7 hD;refine rO 8 1 rfl hD ?_;clear hD;intro K8 hK8;go_wp2_with fail;refine(HN.out _).mono ?_;rintro ev w4 ⟨rfl,hb⟩;have HB8:=Hq hb;clear hb;go_wp2;refine hK8 _ _ (by exact Below.trans hS_7_7 (Below.mono HB8.out (Below.size hS_7_7))) ?_;clear hK8;intro hS_7_8 hD;refine rO 9 0 rfl hD ?_;clear hD;intro K9 hK9;go_wp2;refine hK9 _ _ (by exact hS_7_8) ?_;clear hK9;intro hS_7_9 hD;refine wpAnyK_done (by kernel_rfl) ?_ 0;have HL:=Hq hS_7_9;clear hD;go_wp2;go_ret;exact⟨rfl,((blr).drew).trans (HL.out.mono nlr)⟩
theorem r34_Root:∀(f:Nat) (l:List ByteArray) (A:Option Addr) (n c:Nat) (w:World),l.length≤f→n≤4096→(∀ s∈l,s.size≤1000000)→SlN w A n c l→Calls Tryz.prog 41 #[.slice A n c] w (Ret (.string (rootL l)) w):=by
 intro f
 induction f with
 | zero =>
  intro l A n c w hf hn hsz hs;have hl:l=[]:=List.length_eq_zero_iff.1 (by omega);subst hl;obtain rfl:n=0:=hs.1.symm;have HS:=Hq (r05_Sum ⟨#[]⟩ (by decide) w);rw[show (⟨#[]⟩:ByteArray).data.toList=[]from rfl]at HS;have HR:=Hq rootL_nil;clear hs hsz;go_enter Tryz.func41,Tryz.ntmps41;go_wp2_with fail;refine HS.out.mono ?_;rintro e w1 ⟨rfl,hb⟩;have HB:=Hq hb;clear hb;go_wp2;go_ret;exact⟨by rw[HR.out];rfl,HB.out⟩
 | succ f ih =>
  intro l A n c w hf hn hsz hs;have hcap:=hs.2.1;have hcap2:=hs.2.2.1;have HLEN:=Hq hs.1;rcases Nat.lt_or_ge n 2 with h2 | h2
  · rcases Nat.lt_or_ge n 1 with h1 | h1
    · have hl:l=[]:=List.length_eq_zero_iff.1 (by have:=hs.1;omega);subst hl;obtain rfl:n=0:=hs.1.symm;have HS:=Hq (r05_Sum ⟨#[]⟩ (by decide) w);rw[show (⟨#[]⟩:ByteArray).data.toList=[]from rfl]at HS;have HR:=Hq rootL_nil;clear hs hsz ih;go_enter Tryz.func41,Tryz.ntmps41;go_wp2_with fail;refine HS.out.mono ?_;rintro e w1 ⟨rfl,hb⟩;have HB:=Hq hb;clear hb;go_wp2;go_ret;exact⟨by rw[HR.out];rfl,HB.out⟩
    · obtain rfl:n=1:=by omega
      obtain⟨x,hx⟩:∃ x,l=[x]:=List.length_eq_one_iff.1 hs.1;subst hx;obtain⟨b,o,rfl⟩:=hs.head (by omega);have hc0:w.cell? ⟨b,o,none⟩=some (.string x):=hs.get? 0 rfl;have HS:=Hq (r34_leaf x (by have:=hsz x (by simp);omega) w);have HR:=Hq (rootL_one x);clear hs hsz ih;go_enter Tryz.func41,Tryz.ntmps41;go_wp2_with fail;refine HS.out.mono ?_;rintro e w1 ⟨rfl,hb⟩;have HB:=Hq hb;clear hb;go_wp2;go_ret;exact⟨by rw[HR.out];rfl,HB.out⟩
  · obtain⟨b,o,rfl⟩:=hs.head (by omega);have HR:=Hq (rootL_more (l:=l) (by have:=hs.1;omega));have HH:=Hq (r34_half n h2 (by omega));have hk1:=halfN_pos n;have hk2:=halfN_lt h2;rw[HLEN.out]at HR;obtain⟨k,hk⟩:∃ k,halfN n=k:=⟨_,rfl⟩;rw[hk]at HR HH hk1 hk2;have HS1:=Hq (fun W (hb:Below w.heap.size w W)=>ih (l.take k) (some ⟨b,o,none⟩) k c W (by rw[List.length_take];have:=HLEN.out;omega) (by omega) (fun s h=>hsz s (List.mem_of_mem_take h)) ((hs.takeK k (by omega)).kept hb nlr));have HS2:=Hq (fun W (hb:Below w.heap.size w W)=>ih (l.drop k) (some ⟨b,o+k,none⟩) (n - k) (c - k) W (by rw[List.length_drop];have:=HLEN.out;omega) (by omega) (fun s h=>hsz s (List.mem_of_mem_drop h)) ((hs.dropK k (by omega)).kept hb nlr));have HN:=Hq (r34_node (rootL (l.take k)) (rootL (l.drop k)) (by rw[rootL_size'];omega) (by rw[rootL_size'];omega));rw[←HR.out]at HN;obtain⟨r1,hr1⟩:∃ r,rootL (l.take k)=r:=⟨_,rfl⟩;obtain⟨r2,hr2⟩:∃ r,rootL (l.drop k)=r:=⟨_,rfl⟩;obtain⟨r,hr⟩:∃ r,rootL l=r:=⟨_,rfl⟩;rw[hr1]at HS1;rw[hr2]at HS2;rw[hr1,hr2,hr]at HN;rw[hr];have hkc:k≤c:=by omega
    have hkn:k≤n:=by omega
    have hck:¬ c=k:=by omega
    clear hs hsz ih hk hr1 hr2 hr HR hf;go_enter Tryz.func41,Tryz.ntmps41;go_wp2_with fail;refine(HH.out _).mono ?_;rintro e w1 ⟨rfl,rfl⟩;go_wp2;refine wp_region_K 10 (Below (w.drew).heap.size (w.drew)) (by kernel_rfl) ?_;intro hD;refine rP 0 18 9 rfl hD blr ?_;clear hD;intro hD;refine rP 1 19 8 rfl hD blr ?_;clear hD;intro hD;refine rP 2 20 7 rfl hD blr ?_;clear hD;intro hD;refine rP 4 22 6 rfl hD blr ?_;clear hD;intro hD;refine rP 5 23 5 rfl hD blr ?_;clear hD;intro hD;refine rP 6 24 4 rfl hD blr ?_;clear hD;intro hD;simp only[Act.put,sqA,sqB,sqC];refine rO 3 3 rfl hD ?_;clear hD;intro K3 hK3;go_wp2_with fail;refine(HS1.out _ ((blr).drew)).mono ?_;rintro ev w2 ⟨rfl,hb⟩;have HB3:=Hq hb;clear hb;go_wp2;refine hK3 _ _ (by exact HB3.out) ?_;clear hK3;intro hS_7_3 hD;refine rO 7 2 rfl hD ?_;clear hD;intro K7 hK7;go_wp2_with fail;refine(HS2.out _ (((blr).drew).trans (hS_7_3.mono nlr))).mono ?_;rintro ev w3 ⟨rfl,hb⟩;have HB7:=Hq hb;clear hb;go_wp2;refine hK7 _ _ (by exact Below.trans hS_7_3 (Below.mono HB7.out (Below.size hS_7_3))) ?_;clear hK7;intro hS_7_7 hD;refine rO 8 1 rfl hD ?_;clear hD;intro K8 hK8;go_wp2_with fail;refine(HN.out _).mono ?_;rintro ev w4 ⟨rfl,hb⟩;have HB8:=Hq hb;clear hb;go_wp2;refine hK8 _ _ (by exact Below.trans hS_7_7 (Below.mono HB8.out (Below.size hS_7_7))) ?_;clear hK8;intro hS_7_8 hD;refine rO 9 0 rfl hD ?_;clear hD;intro K9 hK9;go_wp2;refine hK9 _ _ (by exact hS_7_8) ?_;clear hK9;intro hS_7_9 hD;refine wpAnyK_done (by kernel_rfl) ?_ 0;have HL:=Hq hS_7_9;clear hD;go_wp2;go_ret;exact⟨rfl,((blr).drew).trans (HL.out.mono nlr)⟩
end Go.Proofs.YtfbmbledklbfgaaGreat

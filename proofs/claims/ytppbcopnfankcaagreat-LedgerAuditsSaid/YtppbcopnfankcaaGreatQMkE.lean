import Derived.Test.YtppbcopnfankcaaGreatQMkC
set_option linter.unusedVariables false
set_option linter.unusedSimpArgs false
namespace Go.Proofs.YtppbcopnfankcaaGreat
set_option maxRecDepth 100000
set_option maxHeartbeats 4000000
open Go.RowKit
theorem za3(l:List ByteArray):(qj l).size=32:=by
 have h:∀(f:Nat) (l:List ByteArray),(zb0 f l).size=32:=by
  intro f
  induction f with
  | zero=>intro l;unfold zb0;rw[zm,qv]
  | succ f ih =>
   intro l;unfold zb0;split
   · rw[zm,qv]
   · split
     · unfold zpu;rw[zm,qv]
     · unfold zpj;rw[zm,qv]
 exact h _ _
theorem zyw:∀(f:Nat) (l:List ByteArray) (A:Option Addr) (n c:Nat) (w:World),l.length≤f→n≤4096→(∀ s∈l,s.size≤1000000)→SlN w A n c l→Calls Tryz.prog 24 #[.slice A n c] w (Ret (.string (qj l)) w):=by
 intro f
 induction f with
 | zero =>
  intro l A n c w hf hn hsz hs;have hl:l=[]:=List.length_eq_zero_iff.1 (by omega);subst hl;obtain rfl:n=0:=hs.1.symm;have HS:=Hq (zp0 ⟨#[]⟩ (by decide) w);rw[show (⟨#[]⟩:ByteArray).data.toList=[]from rfl]at HS;have HR:=Hq zct;clear hs hsz;go_enter Tryz.func24,Tryz.ntmps24;go_wp2_with fail;refine HS.out.mono ?_;rintro e w1 ⟨rfl,hb⟩;have HB:=Hq hb;clear hb;go_wp2;go_ret;exact⟨by rw[HR.out];rfl,HB.out⟩
 | succ f ih =>
  intro l A n c w hf hn hsz hs;have hcap:=hs.2.1;have hcap2:=hs.2.2.1;have HLEN:=Hq hs.1;rcases Nat.lt_or_ge n 2 with h2 | h2
  · rcases Nat.lt_or_ge n 1 with h1 | h1
    · have hl:l=[]:=List.length_eq_zero_iff.1 (by have:=hs.1;omega);subst hl;obtain rfl:n=0:=hs.1.symm;have HS:=Hq (zp0 ⟨#[]⟩ (by decide) w);rw[show (⟨#[]⟩:ByteArray).data.toList=[]from rfl]at HS;have HR:=Hq zct;clear hs hsz ih;go_enter Tryz.func24,Tryz.ntmps24;go_wp2_with fail;refine HS.out.mono ?_;rintro e w1 ⟨rfl,hb⟩;have HB:=Hq hb;clear hb;go_wp2;go_ret;exact⟨by rw[HR.out];rfl,HB.out⟩
    · obtain rfl:n=1:=by omega
      obtain⟨x,hx⟩:∃ x,l=[x]:=List.length_eq_one_iff.1 hs.1;subst hx;obtain⟨b,o,rfl⟩:=hs.head (by omega);have hc0:w.cell? ⟨b,o,none⟩=some (.string x):=hs.get? 0 rfl;have HS:=Hq (zyu x (by have:=hsz x (by simp);omega) w);have HR:=Hq (zkf x);clear hs hsz ih;go_enter Tryz.func24,Tryz.ntmps24;go_wp2_with fail;refine HS.out.mono ?_;rintro e w1 ⟨rfl,hb⟩;have HB:=Hq hb;clear hb;go_wp2;go_ret;exact⟨by rw[HR.out];rfl,HB.out⟩
  · obtain⟨b,o,rfl⟩:=hs.head (by omega);have HR:=Hq (zhg (l:=l) (by have:=hs.1;omega));have HH:=Hq (zyv n h2 (by omega));have hk1:=zc0 n;have hk2:=zeh h2;rw[HLEN.out]at HR;obtain⟨k,hk⟩:=nm (zah n);rw[hk]at HR HH hk1 hk2;have HS1:=Hq (fun W (hb:Below w.heap.size w W)=>ih (l.take k) (some ⟨b,o,none⟩) k c W (by rw[List.length_take];have:=HLEN.out;omega) (by omega) (fun s h=>hsz s (List.mem_of_mem_take h)) ((hs.takeK k (by omega)).kept hb nlr));have HS2:=Hq (fun W (hb:Below w.heap.size w W)=>ih (l.drop k) (some ⟨b,o+k,none⟩) (n - k) (c - k) W (by rw[List.length_drop];have:=HLEN.out;omega) (by omega) (fun s h=>hsz s (List.mem_of_mem_drop h)) ((hs.dropK k (by omega)).kept hb nlr));have HN:=Hq (zyt (qj (l.take k)) (qj (l.drop k)) (by rw[za3];omega) (by rw[za3];omega));rw[←HR.out]at HN;obtain⟨r1,hr1⟩:=nm (qj (l.take k));obtain⟨r2,hr2⟩:=nm (qj (l.drop k));obtain⟨r,hr⟩:=nm (qj l);rw[hr1]at HS1;rw[hr2]at HS2;rw[hr1,hr2,hr]at HN;rw[hr];have hkc:k≤c:=by omega
    have hkn:k≤n:=by omega
    have hck:¬ c=k:=by omega
    clear hs hsz ih hk hr1 hr2 hr HR hf;go_enter Tryz.func24,Tryz.ntmps24;go_wp2_with fail;refine(HH.out _).mono ?_;rintro e w1 ⟨rfl,rfl⟩;go_wp2;refine za 10 (Below (w.drew).heap.size (w.drew)) (by kernel_rfl) ?_;refine rPs 0 18 9 blr ?_;refine rPs 1 19 8 blr ?_;refine rPs 2 20 7 blr ?_;refine rPs 4 22 6 blr ?_;refine rPs 5 23 5 blr ?_;refine rPs 6 24 4 blr ?_;refine rO 3 3 ?_;intro K3 hK3;go_wp2_with fail;refine(HS1.out _ ((blr).drew)).mono ?_;rintro ev w2 ⟨rfl,hb⟩;have HB3:=Hq hb;clear hb;go_wp2;refine hK3 _ _ (by exact HB3.out) ?_;clear hK3;intro hS_7_3;refine rO 7 2 ?_;intro K7 hK7;go_wp2_with fail;refine(HS2.out _ (((blr).drew).trans (hS_7_3.mono nlr))).mono ?_;rintro ev w3 ⟨rfl,hb⟩;have HB7:=Hq hb;clear hb;go_wp2;refine hK7 _ _ (by exact Below.trans hS_7_3 (Below.mono HB7.out (Below.size hS_7_3))) ?_;clear hK7;intro hS_7_7;refine rO 8 1 ?_;intro K8 hK8;go_wp2_with fail;refine(HN.out _).mono ?_;rintro ev w4 ⟨rfl,hb⟩;have HB8:=Hq hb;clear hb;go_wp2;refine hK8 _ _ (by exact Below.trans hS_7_7 (Below.mono HB8.out (Below.size hS_7_7))) ?_;clear hK8;intro hS_7_8;refine rO 9 0 ?_;intro K9 hK9;go_wp2;refine hK9 _ _ (by exact hS_7_8) ?_;clear hK9;intro hS_7_9;refine wDn ?_;have HL:=Hq hS_7_9;go_wp2;go_ret;exact⟨rfl,((blr).drew).trans (HL.out.mono nlr)⟩
theorem zt3:∀(f:Nat) (l:List ByteArray) (A:Option Addr) (n c:Nat) (w:World),l.length≤f→n≤4096→(∀ s∈l,s.size≤1000000)→SlN w A n c l→Calls Tryz.prog 30 #[.slice A n c] w (Ret (.string (qj l)) w):=by
 intro f
 induction f with
 | zero =>
  intro l A n c w hf hn hsz hs;have hl:l=[]:=List.length_eq_zero_iff.1 (by omega);subst hl;obtain rfl:n=0:=hs.1.symm;have HS:=Hq (zfe ⟨#[]⟩ (by decide) w);rw[show (⟨#[]⟩:ByteArray).data.toList=[]from rfl]at HS;have HR:=Hq zct;clear hs hsz;go_enter Tryz.func30,Tryz.ntmps30;go_wp2_with fail;refine HS.out.mono ?_;rintro e w1 ⟨rfl,hb⟩;have HB:=Hq hb;clear hb;go_wp2;go_ret;exact⟨by rw[HR.out];rfl,HB.out⟩
 | succ f ih =>
  intro l A n c w hf hn hsz hs;have hcap:=hs.2.1;have hcap2:=hs.2.2.1;have HLEN:=Hq hs.1;rcases Nat.lt_or_ge n 2 with h2 | h2
  · rcases Nat.lt_or_ge n 1 with h1 | h1
    · have hl:l=[]:=List.length_eq_zero_iff.1 (by have:=hs.1;omega);subst hl;obtain rfl:n=0:=hs.1.symm;have HS:=Hq (zfe ⟨#[]⟩ (by decide) w);rw[show (⟨#[]⟩:ByteArray).data.toList=[]from rfl]at HS;have HR:=Hq zct;clear hs hsz ih;go_enter Tryz.func30,Tryz.ntmps30;go_wp2_with fail;refine HS.out.mono ?_;rintro e w1 ⟨rfl,hb⟩;have HB:=Hq hb;clear hb;go_wp2;go_ret;exact⟨by rw[HR.out];rfl,HB.out⟩
    · obtain rfl:n=1:=by omega
      obtain⟨x,hx⟩:∃ x,l=[x]:=List.length_eq_one_iff.1 hs.1;subst hx;obtain⟨b,o,rfl⟩:=hs.head (by omega);have hc0:w.cell? ⟨b,o,none⟩=some (.string x):=hs.get? 0 rfl;have HS:=Hq (zt1 x (by have:=hsz x (by simp);omega) w);have HR:=Hq (zkf x);clear hs hsz ih;go_enter Tryz.func30,Tryz.ntmps30;go_wp2_with fail;refine HS.out.mono ?_;rintro e w1 ⟨rfl,hb⟩;have HB:=Hq hb;clear hb;go_wp2;go_ret;exact⟨by rw[HR.out];rfl,HB.out⟩
  · obtain⟨b,o,rfl⟩:=hs.head (by omega);have HR:=Hq (zhg (l:=l) (by have:=hs.1;omega));have HH:=Hq (zt2 n h2 (by omega));have hk1:=zc0 n;have hk2:=zeh h2;rw[HLEN.out]at HR;obtain⟨k,hk⟩:=nm (zah n);rw[hk]at HR HH hk1 hk2;have HS1:=Hq (fun W (hb:Below w.heap.size w W)=>ih (l.take k) (some ⟨b,o,none⟩) k c W (by rw[List.length_take];have:=HLEN.out;omega) (by omega) (fun s h=>hsz s (List.mem_of_mem_take h)) ((hs.takeK k (by omega)).kept hb nlr));have HS2:=Hq (fun W (hb:Below w.heap.size w W)=>ih (l.drop k) (some ⟨b,o+k,none⟩) (n - k) (c - k) W (by rw[List.length_drop];have:=HLEN.out;omega) (by omega) (fun s h=>hsz s (List.mem_of_mem_drop h)) ((hs.dropK k (by omega)).kept hb nlr));have HN:=Hq (zt0 (qj (l.take k)) (qj (l.drop k)) (by rw[za3];omega) (by rw[za3];omega));rw[←HR.out]at HN;obtain⟨r1,hr1⟩:=nm (qj (l.take k));obtain⟨r2,hr2⟩:=nm (qj (l.drop k));obtain⟨r,hr⟩:=nm (qj l);rw[hr1]at HS1;rw[hr2]at HS2;rw[hr1,hr2,hr]at HN;rw[hr];have hkc:k≤c:=by omega
    have hkn:k≤n:=by omega
    have hck:¬ c=k:=by omega
    clear hs hsz ih hk hr1 hr2 hr HR hf;go_enter Tryz.func30,Tryz.ntmps30;go_wp2_with fail;refine(HH.out _).mono ?_;rintro e w1 ⟨rfl,rfl⟩;go_wp2;refine za 10 (Below (w.drew).heap.size (w.drew)) (by kernel_rfl) ?_;refine rPs 0 18 9 blr ?_;refine rPs 1 19 8 blr ?_;refine rPs 2 20 7 blr ?_;refine rPs 4 22 6 blr ?_;refine rPs 5 23 5 blr ?_;refine rPs 6 24 4 blr ?_;refine rO 3 3 ?_;intro K3 hK3;go_wp2_with fail;refine(HS1.out _ ((blr).drew)).mono ?_;rintro ev w2 ⟨rfl,hb⟩;have HB3:=Hq hb;clear hb;go_wp2;refine hK3 _ _ (by exact HB3.out) ?_;clear hK3;intro hS_7_3;refine rO 7 2 ?_;intro K7 hK7;go_wp2_with fail;refine(HS2.out _ (((blr).drew).trans (hS_7_3.mono nlr))).mono ?_;rintro ev w3 ⟨rfl,hb⟩;have HB7:=Hq hb;clear hb;go_wp2;refine hK7 _ _ (by exact Below.trans hS_7_3 (Below.mono HB7.out (Below.size hS_7_3))) ?_;clear hK7;intro hS_7_7;refine rO 8 1 ?_;intro K8 hK8;go_wp2_with fail;refine(HN.out _).mono ?_;rintro ev w4 ⟨rfl,hb⟩;have HB8:=Hq hb;clear hb;go_wp2;refine hK8 _ _ (by exact Below.trans hS_7_7 (Below.mono HB8.out (Below.size hS_7_7))) ?_;clear hK8;intro hS_7_8;refine rO 9 0 ?_;intro K9 hK9;go_wp2;refine hK9 _ _ (by exact hS_7_8) ?_;clear hK9;intro hS_7_9;refine wDn ?_;have HL:=Hq hS_7_9;go_wp2;go_ret;exact⟨rfl,((blr).drew).trans (HL.out.mono nlr)⟩
end Go.Proofs.YtppbcopnfankcaaGreat

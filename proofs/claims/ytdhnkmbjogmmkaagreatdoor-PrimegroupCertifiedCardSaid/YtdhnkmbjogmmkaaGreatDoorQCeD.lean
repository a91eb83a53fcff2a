import Derived.Test.YtdhnkmbjogmmkaaGreatDoorQCeC
set_option linter.unusedVariables false
set_option linter.unusedSimpArgs false
namespace Go.Proofs.YtdhnkmbjogmmkaaGreatDoor
set_option maxRecDepth 100000
set_option maxHeartbeats 4000000
open Go.RowKit
theorem nsz{s:ByteArray}(h:s.size≤16):s.size≤9223372036854775807:=by omega
theorem num16{s:ByteArray}(h:s.size≤16):num s<256 ^ 128:=num_lt (by omega)
theorem ncmp_v{a b:ByteArray}(ha:nvalid a=true)(hb:nvalid b=true):ncmp a b=cmpI (num a) (num b):=by
 unfold ncmp;rw[ha,hb,if_pos (show (true&&true)=true from rfl)];unfold ordB;rw[ordL_canon (nvalid_canon ha) (nvalid_canon hb)];rfl
theorem cmpI_neg'{a b:Nat}:cmpI a b<0↔a<b:=by
 unfold cmpI;split
 · omega
 · split<;>omega
theorem cmpI_ge{a b:Nat}:0≤cmpI a b↔b≤a:=by
 unfold cmpI;split
 · omega
 · split<;>omega
theorem wf_nil{s:Stp}{i:Nat}(hp:nvalid s.p=true)(h2:¬ num s.p<2)(h0:s.f=[]):wfB s i=s.b.toList.isEmpty:=by
 by_cases hb:s.b.size=0
 · rw[sempty_true hb,wfB_true];exact⟨hp,by omega,.inl ⟨h0,hb⟩⟩
 · rw[sempty_false (by omega),wfB_false];rintro⟨_,_,h | h⟩
   · exact hb h.2
   · exact h.1 h0
theorem wf_last{s:Stp}{i:Nat}(hp:nvalid s.p=true)(h2:¬ num s.p<2)(h0:s.f≠[])(hf:∀ k,okF i s.f k):wfP s i↔nvalid s.b=true∧2≤num s.b∧num s.b<num s.p:=by
 constructor
 · rintro⟨_,_,h | h⟩
   · exact absurd h.1 h0
   · exact h.2.2
 · intro h;exact⟨hp,by omega,.inr ⟨h0,hf,h⟩⟩
theorem wf_fac{s:Stp}{i k:Nat}(h:¬ okF i s.f k):¬ wfP s i:=by
 rintro⟨_,_,h1 | h1⟩
 · exact h (fun x hx=>by rw[h1.1]at hx;cases hx)
 · exact h (h1.2.1 k)
theorem ce_wellFormed(l:List Stp)(i:Nat)(s:Stp)(hi:l[i]? =some s)(h16:s.p.size≤16∧s.b.size≤16∧s.f.length≤1000)(A:Option Addr)(len cap:Nat)(w:World)(hs:SlT w A len cap l):Calls Tryz.prog 32 #[.slice A len cap,.int .i64 i] w (Ret (.bool (wfB s i)) w):=by
 have hlen:=hs.1;have hcap:=hs.2.1;have hcap2:=hs.2.2.1;have hil:i<len:=by rw[←hlen];exact(List.getElem?_eq_some_iff.1 hi).1
 obtain⟨b,o,rfl,A1,n1,c1,x0,x1,x2,hsf⟩:=hs.get hi;have HVP:=Hq (nat_Valid s.p (nsz h16.1));have HVB:=Hq (nat_Valid s.b (nsz h16.2.1));have HCP:=Hq (nat_Cmp s.p (nS 2) (nsz h16.1) (by decide));have HCB:=Hq (nat_Cmp s.b (nS 2) (nsz h16.2.1) (by decide));have HCC:=Hq (nat_Cmp s.b s.p (nsz h16.2.1) (nsz h16.1));have HSF:=Hq hsf;have H16:=Hq h16;have hn1:=hsf.1;have hn2:=hsf.2.1;have hn3:=hsf.2.2.1;obtain⟨P,hP⟩:∃ P,s.p=P:=⟨_,rfl⟩;obtain⟨Bs,hB⟩:∃ P,s.b=P:=⟨_,rfl⟩;rw[hP]at x0 HVP HCP HCC;rw[hB]at x1 HVB HCB HCC;have HP:=Hq hP;have HBs:=Hq hB;obtain⟨WX,hWX⟩:∃ WX,w.alloc (.cells #[.string P,.string Bs,.slice A1 n1 c1] 36)=WX:=⟨_,rfl⟩;have hbX:Below w.heap.size w WX:=by rw[←hWX];exact(blr).alloc nlr _
 have HX:=Hq (show BxT WX w.heap.size #[.string P,.string Bs,.slice A1 n1 c1] 36 from by rw[←hWX];exact BxT.new _ _ _);have HBX:=Hq hbX;clear hs hi h16 hsf hP hB hbX hlen;go_enter Tryz.func32,Tryz.ntmps32;go_wp2;try rw[hWX]
 clear hWX x0 x1 x2;obtain⟨wd,hwd⟩:∃ wd,WX.drew=wd:=⟨_,rfl⟩;have hbd:Below WX.heap.size WX wd:=by rw[←hwd];exact(blr).drew
 have HXD:=Hq (HX.out.next hbd);have HBD:=Hq (HBX.out.trans (hbd.mono HBX.out.size));have HSD:=Hq ((HSF.out.kept HBX.out nlr).kept hbd nlr);clear hbd;have c0:wd.cell? ⟨w.heap.size,0,none⟩=some (.string P):=HXD.out.cell 0;have HVPd:=Hq (HVP.out wd)
 cases vp:nvalid P with
 | false =>
  rw[vp]at HVPd;have HNW:=Hq (show ¬ wfP s i from fun h=>by have:=h.1;rw[HP.out,vp]at this;cases this);clear vp;refine wp_region_K 11 (Below (wd).heap.size (wd)) (by kernel_rfl) ?_;intro hD;rw[hwd];refine rP 0 12 10 rfl hD blr ?_;clear hD;intro hD;refine rT 1 13 9 rfl hD blr (by intro w' hS';have e0:=kC hS' c0;go_simp;with_reducible rfl) ?_;clear hD;intro hD;simp only[Act.put,sqA,sqB,sqC];refine rO 2 8 rfl hD ?_;clear hD;intro K2 hK2;go_wp2_with fail;refine(show Calls _ _ _ _ _ from HVPd.out).mono ?_;rintro ev w3 ⟨rfl,rfl⟩;go_wp2;refine hK2 _ _ (by exact blr) ?_;clear hK2;intro hS_2_2 hD;refine rP 3 15 7 rfl hD hS_2_2 ?_;clear hD;intro hD;refine rP 4 16 6 rfl hD hS_2_2 ?_;clear hD;intro hD;refine rU 5 17 5 rfl hD hS_2_2 ?_;clear hD;intro hD;refine rU 6 18 4 rfl hD hS_2_2 ?_;clear hD;intro hD;refine rU 7 19 3 rfl hD hS_2_2 ?_;clear hD;intro hD;refine rU 8 20 2 rfl hD hS_2_2 ?_;clear hD;intro hD;refine rU 9 21 1 rfl hD hS_2_2 ?_;clear hD;intro hD;refine rP 10 22 0 rfl hD hS_2_2 ?_;clear hD;intro hD;simp only[Act.put,sqA,sqB,sqC];refine wpAnyK_done (by kernel_rfl) ?_ 0;try clear hD
  go_wp2;go_ret;exact⟨by show Ending.returned (.bool false)=_;rw[wfB_false HNW.out],HBD.out⟩
 | true =>
  rw[vp]at HVPd;have VP:=Hq vp;clear vp;rw[ncmp_v VP.out (nvalid_nS.2 (by decide)),num_nS]at HCP;obtain⟨c,hc⟩:∃ c,cmpI (num P) 2=c:=⟨_,rfl⟩;rw[hc]at HCP;have HC2:=Hq (show c<0↔num P<2 from by rw[←hc];exact cmpI_neg');clear hc;by_cases h2:num P<2
  · have hc0:decide (c<0)=true:=decide_eq_true (HC2.out.2 h2);have HNW:=Hq (show ¬ wfP s i from fun h=>by have:=h.2.1;rw[HP.out]at this;omega);clear h2;refine wp_region_K 11 (Below (wd).heap.size (wd)) (by kernel_rfl) ?_;intro hD;rw[hwd];refine rP 0 12 10 rfl hD blr ?_;clear hD;intro hD;refine rT 1 13 9 rfl hD blr (by intro w' hS';have e0:=kC hS' c0;go_simp;with_reducible rfl) ?_;clear hD;intro hD;simp only[Act.put,sqA,sqB,sqC];refine rO 2 8 rfl hD ?_;clear hD;intro K2 hK2;go_wp2_with fail;refine(show Calls _ _ _ _ _ from HVPd.out).mono ?_;rintro ev w3 ⟨rfl,rfl⟩;go_wp2;refine hK2 _ _ (by exact blr) ?_;clear hK2;intro hS_2_2 hD;refine rP 3 15 7 rfl hD hS_2_2 ?_;clear hD;intro hD;refine rP 4 16 6 rfl hD hS_2_2 ?_;clear hD;intro hD;refine rP 5 17 5 rfl hD hS_2_2 ?_;clear hD;intro hD;refine rT 6 18 4 rfl hD hS_2_2 (by intro w' hS';have e0:=kC hS' c0;go_simp;with_reducible rfl) ?_;clear hD;intro hD;simp only[Act.put,sqA,sqB,sqC];refine rO 7 3 rfl hD ?_;clear hD;intro K7 hK7;go_wp2_with fail;refine(nat_Of 2 (by decide) _).mono ?_;rintro ev w3 ⟨rfl,hb⟩;have HB7:=Hq hb;clear hb;go_wp2;refine hK7 _ _ (by exact Below.trans hS_2_2 (Below.mono HB7.out (Below.size hS_2_2))) ?_;clear hK7;intro hS_2_7 hD;refine rO 8 2 rfl hD ?_;clear hD;intro K8 hK8;go_wp2_with fail;refine(show Calls _ _ _ _ _ from HCP.out _).mono ?_;rintro ev w3 ⟨rfl,rfl⟩;go_wp2;refine hK8 _ _ (by exact hS_2_7) ?_;clear hK8;intro hS_2_8 hD;refine rP 9 21 1 rfl hD hS_2_8 ?_;clear hD;intro hD;refine rP 10 22 0 rfl hD hS_2_8 ?_;clear hD;intro hD;simp only[Act.put,sqA,sqB,sqC];refine wpAnyK_done (by kernel_rfl) ?_ 0;have HBE:=Hq (HBD.out.trans (HB7.out.mono HBD.out.size));try clear hD
    go_wp2;go_ret;exact⟨by show Ending.returned (.bool false)=_;rw[wfB_false HNW.out],HBE.out⟩
  · have hc0:decide (c<0)=false:=decide_eq_false (fun h=>h2 (HC2.out.1 h));have H2:=Hq h2;clear h2;refine wp_region_K 11 (Below (wd).heap.size (wd)) (by kernel_rfl) ?_;intro hD;rw[hwd];refine rP 0 12 10 rfl hD blr ?_;clear hD;intro hD;refine rT 1 13 9 rfl hD blr (by intro w' hS';have e0:=kC hS' c0;go_simp;with_reducible rfl) ?_;clear hD;intro hD;simp only[Act.put,sqA,sqB,sqC];refine rO 2 8 rfl hD ?_;clear hD;intro K2 hK2;go_wp2_with fail;refine(show Calls _ _ _ _ _ from HVPd.out).mono ?_;rintro ev w3 ⟨rfl,rfl⟩;go_wp2;refine hK2 _ _ (by exact blr) ?_;clear hK2;intro hS_2_2 hD;refine rP 3 15 7 rfl hD hS_2_2 ?_;clear hD;intro hD;refine rP 4 16 6 rfl hD hS_2_2 ?_;clear hD;intro hD;refine rP 5 17 5 rfl hD hS_2_2 ?_;clear hD;intro hD;refine rT 6 18 4 rfl hD hS_2_2 (by intro w' hS';have e0:=kC hS' c0;go_simp;with_reducible rfl) ?_;clear hD;intro hD;simp only[Act.put,sqA,sqB,sqC];refine rO 7 3 rfl hD ?_;clear hD;intro K7 hK7;go_wp2_with fail;refine(nat_Of 2 (by decide) _).mono ?_;rintro ev w3 ⟨rfl,hb⟩;have HB7:=Hq hb;clear hb;go_wp2;refine hK7 _ _ (by exact Below.trans hS_2_2 (Below.mono HB7.out (Below.size hS_2_2))) ?_;clear hK7;intro hS_2_7 hD;refine rO 8 2 rfl hD ?_;clear hD;intro K8 hK8;go_wp2_with fail;refine(show Calls _ _ _ _ _ from HCP.out _).mono ?_;rintro ev w4 ⟨rfl,rfl⟩;go_wp2;refine hK8 _ _ (by exact hS_2_7) ?_;clear hK8;intro hS_2_8 hD;refine rP 9 21 1 rfl hD hS_2_8 ?_;clear hD;intro hD;refine rP 10 22 0 rfl hD hS_2_8 ?_;clear hD;intro hD;simp only[Act.put,sqA,sqB,sqC];refine wpAnyK_done (by kernel_rfl) ?_ 0;clear hD c0 hS_2_7 hS_2_8;have HBE:=Hq (HBD.out.trans (HB7.out.mono HBD.out.size));have HXE:=Hq (HXD.out.next HB7.out);have HSE:=Hq (HSD.out.kept HB7.out nlr);clear HXD HSD HX;have d2:w3.cell? ⟨w.heap.size,2,none⟩=some (.slice A1 n1 c1):=HXE.out.cell 2;by_cases hz:n1=0
    · have HF0:=Hq (show s.f=[]from List.length_eq_zero_iff.1 (by omega));have d1:w3.cell? ⟨w.heap.size,1,none⟩=some (.string Bs):=HXE.out.cell 1;go_wp2;go_ret;exact⟨by show Ending.returned (.bool Bs.toList.isEmpty)=_;rw[wf_nil (by rw[HP.out];exact VP.out) (by rw[HP.out];exact H2.out) HF0.out,HBs.out],HBE.out⟩
    · have hz':¬ ((n1:Int)=0):=by omega
      have HF0:=Hq (show s.f≠[]from fun h=>hz (by rw[←hn1,h];rfl));have HNL:=Hq hn1;clear hz hn1;go_wp2;clear d2;go_loopw [33] (fun k wr=>∃ j:Nat,j≤n1∧k=.int .i64 j∧(∀ m,m<j→okF i s.f m)∧wr=w3) (fun k _=>n1 - (intOf k).toNat);case atStart=>exact⟨0,Nat.zero_le _,rfl,fun m h=>absurd h (Nat.not_lt_zero _),rfl⟩
      case round =>
       obtain⟨j,hj,rfl,hall,rfl⟩:=hrel;have HALL:=Hq hall;clear hall;by_cases hlt:j<n1
       · obtain⟨x,he⟩:∃ x,s.f[j]? =some x:=⟨_,List.getElem?_eq_getElem (by rw[HNL.out];exact hlt)⟩;obtain⟨fb,fo,rfl,hcell⟩:=HSE.out.get he;have e0:=hcell j x he;have HCELL:=Hq hcell;have HE:=Hq he;clear he hcell;by_cases hx0:x<0
         · have HNW:=Hq (show ¬ wfP s i from wf_fac (k:=j) fun h=>by have:=(h x HE.out).1;omega);have hd:decide (x<0)=true:=decide_eq_true hx0;try clear hD
           go_wp2;go_ret;exact⟨by show Ending.returned (.bool false)=_;rw[wfB_false HNW.out],HBE.out⟩
         · have hd:decide (x<0)=false:=decide_eq_false hx0;have HX0:=Hq hx0;clear hx0;by_cases hxi:(i:Int)≤x
           · have HNW:=Hq (show ¬ wfP s i from wf_fac (k:=j) fun h=>by have:=(h x HE.out).2.1;omega);have hd2:decide ((i:Int)≤x)=true:=decide_eq_true hxi;try clear hD
             go_wp2;go_ret;exact⟨by show Ending.returned (.bool false)=_;rw[wfB_false HNW.out],HBE.out⟩
           · have hd2:decide ((i:Int)≤x)=false:=decide_eq_false hxi;have HXI:=Hq hxi;clear hxi;rcases Nat.eq_zero_or_pos j with hj0 | hj0
             · have HOK:=Hq (show ∀ m,m<j+1→okF i s.f m from fun m hm=>by
                obtain rfl:m=0:=by omega
                intro y hy;rw[←hj0,HE.out]at hy;cases hy
                exact⟨by have:=HX0.out;omega,by have:=HXI.out;omega,fun z hz=>absurd hz (Nat.lt_irrefl 0)⟩)
               have hjd:decide ((0:Int)<(j:Int))=false:=decide_eq_false (by omega);have hjd2:decide (0<j)=false:=decide_eq_false (by omega);clear hj0;go_wp2;go_roundw;case rel=>exact⟨j+1,by omega,by go_num,HOK.out,trivial⟩
               case measure=>simp[intOf];omega
             · obtain⟨m,rfl⟩:∃ m,j=m+1:=⟨j - 1,by omega⟩;obtain⟨y,hy⟩:∃ y,s.f[m]? =some y:=⟨_,List.getElem?_eq_getElem (by rw[HNL.out];omega)⟩;have em:=HCELL.out m y hy;have HY:=Hq hy;have hjj:((m+1:Nat):Int)=(m:Int)+1:=rfl;have hj1:(m:Int)+1 - 1=m:=by omega
               have hw1:IntKind.i64.wrap (m:Int)=m:=by rw[IntKind.wrap_i64];omega
               have hj3:decide ((0:Int)<(m:Int)+1)=true:=decide_eq_true (by omega);have hj4:(m:Int)<(n1:Int):=by omega
               have hj5:m<n1:=by omega
               have d2:wr.cell? ⟨w.heap.size,2,none⟩=some (.slice (some ⟨fb,fo,none⟩) n1 c1):=HXE.out.cell 2;have d0:(m:Int)+1<(n1:Int):=by omega
               have d5:(0:Int)≤(m:Int)+1:=by omega
               have d6:((m:Int)+1).toNat=m+1:=by omega
               rw[hjj];clear hy;by_cases hxy:x≤y
               · have HNW:=Hq (show ¬ wfP s i from wf_fac (k:=m+1) fun h=>by have:=(h x HE.out).2.2 y (by omega) (by simpa using HY.out);omega);have hd3:decide (x≤y)=true:=decide_eq_true hxy;try clear hD
                 go_wp2;go_ret;exact⟨by show Ending.returned (.bool false)=_;rw[wfB_false HNW.out],HBE.out⟩
               · have hd3:decide (x≤y)=false:=decide_eq_false hxy;have HOK:=Hq (show ∀ q,q<m+1+1→okF i s.f q from fun q hq=>by
                    rcases Nat.lt_or_ge q (m+1)with h | h
                    · exact HALL.out q h
                    · obtain rfl:q=m+1:=by omega
                      intro z hz;rw[HE.out]at hz;cases hz;refine⟨by have:=HX0.out;omega,by have:=HXI.out;omega,fun z' _ hz'=>?_⟩;rw[show m+1 - 1=m from rfl,HY.out]at hz';cases hz'
                      omega)
                 clear hxy;go_wp2;go_roundw;case rel=>exact⟨m+1+1,by omega,by go_num,HOK.out,trivial⟩
                 case measure=>simp[intOf];omega
       · obtain rfl:j=n1:=by omega
         have HWL:=Hq (wf_last (i:=i) (by rw[HP.out];exact VP.out) (by rw[HP.out];exact H2.out) HF0.out (fun k=>by
          rcases Nat.lt_or_ge k j with h | h
          · exact HALL.out k h
          · intro x hx;have:=(List.getElem?_eq_some_iff.1 hx).1;rw[HNL.out]at this
            omega))
         rw[HBs.out,HP.out]at HWL;go_wp2;obtain⟨we,hwe⟩:∃ we,wr.drew=we:=⟨_,rfl⟩;have hbd:Below wr.heap.size wr we:=by rw[←hwe];exact(blr).drew
         have HXF:=Hq (HXE.out.next hbd);have HBF:=Hq (HBE.out.trans (hbd.mono HBE.out.size));clear hbd;have f0:we.cell? ⟨w.heap.size,0,none⟩=some (.string P):=HXF.out.cell 0;have f1:we.cell? ⟨w.heap.size,1,none⟩=some (.string Bs):=HXF.out.cell 1;have HVBd:=Hq (HVB.out we)
         cases vb:nvalid Bs with
         | false =>
          rw[vb]at HVBd;have HNW:=Hq (show ¬ wfP s i from fun h=>by have:=(HWL.out.1 h).1;rw[vb]at this;cases this);clear vb;refine wp_region_K 19 (Below (we).heap.size (we)) (by kernel_rfl) ?_;intro hD;rw[hwe];refine rP 0 60 18 rfl hD blr ?_;clear hD;intro hD;refine rT 1 61 17 rfl hD blr (by intro w' hS';have e0:=kC hS' f0;have e1:=kC hS' f1;go_simp;with_reducible rfl) ?_;clear hD;intro hD;simp only[Act.put,sqA,sqB,sqC];refine rO 2 16 rfl hD ?_;clear hD;intro K2 hK2;go_wp2_with fail;refine(show Calls _ _ _ _ _ from HVBd.out).mono ?_;rintro ev w3 ⟨rfl,rfl⟩;go_wp2;refine hK2 _ _ (by exact blr) ?_;clear hK2;intro hS_12_2 hD;refine rP 3 63 15 rfl hD hS_12_2 ?_;clear hD;intro hD;refine rU 4 64 14 rfl hD hS_12_2 ?_;clear hD;intro hD;refine rU 5 65 13 rfl hD hS_12_2 ?_;clear hD;intro hD;refine rU 6 66 12 rfl hD hS_12_2 ?_;clear hD;intro hD;refine rU 7 67 11 rfl hD hS_12_2 ?_;clear hD;intro hD;refine rU 8 68 10 rfl hD hS_12_2 ?_;clear hD;intro hD;refine rP 9 69 9 rfl hD hS_12_2 ?_;clear hD;intro hD;refine rP 10 70 8 rfl hD hS_12_2 ?_;clear hD;intro hD;refine rU 11 71 7 rfl hD hS_12_2 ?_;clear hD;intro hD;refine rU 12 72 6 rfl hD hS_12_2 ?_;clear hD;intro hD;refine rU 13 73 5 rfl hD hS_12_2 ?_;clear hD;intro hD;refine rU 14 74 4 rfl hD hS_12_2 ?_;clear hD;intro hD;refine rU 15 75 3 rfl hD hS_12_2 ?_;clear hD;intro hD;refine rU 16 76 2 rfl hD hS_12_2 ?_;clear hD;intro hD;refine rP 17 77 1 rfl hD hS_12_2 ?_;clear hD;intro hD;simp only[Act.put,sqA,sqB,sqC];refine rO 18 0 rfl hD ?_;clear hD;intro K18 hK18;go_wp2;refine hK18 _ _ (by exact hS_12_2) ?_;clear hK18;intro hS_12_18 hD;refine wpAnyK_done (by kernel_rfl) ?_ 0;try clear hD
          go_wp2;go_ret;exact⟨by show Ending.returned (.bool false)=_;rw[wfB_false HNW.out],HBF.out⟩
         | true =>
          rw[vb]at HVBd;have VB:=Hq vb;clear vb;rw[ncmp_v VB.out (nvalid_nS.2 (by decide)),num_nS]at HCB;rw[ncmp_v VB.out VP.out]at HCC;obtain⟨c',hc'⟩:∃ c,cmpI (num Bs) 2=c:=⟨_,rfl⟩;rw[hc']at HCB;have HC3:=Hq (show 0≤c'↔2≤num Bs from by rw[←hc'];exact cmpI_ge);obtain⟨k',hk'⟩:∃ c,cmpI (num Bs) (num P)=c:=⟨_,rfl⟩;rw[hk']at HCC;have HC4:=Hq (show k'<0↔num Bs<num P from by rw[←hk'];exact cmpI_neg');clear hc' hk';by_cases h3:2≤num Bs
          · have hc3:decide (0≤c')=true:=decide_eq_true (HC3.out.2 h3);have HRE:=Hq (show decide (k'<0)=wfB s i from by
             by_cases hk:k'<0
             · rw[decide_eq_true hk,wfB_true.2 (HWL.out.2 ⟨VB.out,h3,HC4.out.1 hk⟩)]
             · rw[decide_eq_false hk,wfB_false (fun h=>hk (HC4.out.2 (HWL.out.1 h).2.2))])
            clear h3;refine wp_region_K 19 (Below (we).heap.size (we)) (by kernel_rfl) ?_;intro hD;rw[hwe];refine rP 0 60 18 rfl hD blr ?_;clear hD;intro hD;refine rT 1 61 17 rfl hD blr (by intro w' hS';have e0:=kC hS' f0;have e1:=kC hS' f1;go_simp;with_reducible rfl) ?_;clear hD;intro hD;simp only[Act.put,sqA,sqB,sqC];refine rO 2 16 rfl hD ?_;clear hD;intro K2 hK2;go_wp2_with fail;refine(show Calls _ _ _ _ _ from HVBd.out).mono ?_;rintro ev w3 ⟨rfl,rfl⟩;go_wp2;refine hK2 _ _ (by exact blr) ?_;clear hK2;intro hS_12_2 hD;refine rP 3 63 15 rfl hD hS_12_2 ?_;clear hD;intro hD;refine rP 4 64 14 rfl hD hS_12_2 ?_;clear hD;intro hD;refine rT 5 65 13 rfl hD hS_12_2 (by intro w' hS';have e0:=kC hS' f0;have e1:=kC hS' f1;go_simp;with_reducible rfl) ?_;clear hD;intro hD;simp only[Act.put,sqA,sqB,sqC];refine rO 6 12 rfl hD ?_;clear hD;intro K6 hK6;go_wp2_with fail;refine(nat_Of 2 (by decide) _).mono ?_;rintro ev w3 ⟨rfl,hb⟩;have HB6:=Hq hb;clear hb;go_wp2;refine hK6 _ _ (by exact Below.trans hS_12_2 (Below.mono HB6.out (Below.size hS_12_2))) ?_;clear hK6;intro hS_12_6 hD;refine rO 7 11 rfl hD ?_;clear hD;intro K7 hK7;go_wp2_with fail;refine(show Calls _ _ _ _ _ from HCB.out _).mono ?_;rintro ev w4 ⟨rfl,rfl⟩;go_wp2;refine hK7 _ _ (by exact hS_12_6) ?_;clear hK7;intro hS_12_7 hD;refine rP 8 68 10 rfl hD hS_12_7 ?_;clear hD;intro hD;refine rP 9 69 9 rfl hD hS_12_7 ?_;clear hD;intro hD;refine rP 10 70 8 rfl hD hS_12_7 ?_;clear hD;intro hD;refine rP 11 71 7 rfl hD hS_12_7 ?_;clear hD;intro hD;refine rT 12 72 6 rfl hD hS_12_7 (by intro w' hS';have e0:=kC hS' f0;have e1:=kC hS' f1;go_simp;with_reducible rfl) ?_;clear hD;intro hD;refine rP 13 73 5 rfl hD hS_12_7 ?_;clear hD;intro hD;refine rT 14 74 4 rfl hD hS_12_7 (by intro w' hS';have e0:=kC hS' f0;have e1:=kC hS' f1;go_simp;with_reducible rfl) ?_;clear hD;intro hD;simp only[Act.put,sqA,sqB,sqC];refine rO 15 3 rfl hD ?_;clear hD;intro K15 hK15;go_wp2_with fail;refine(show Calls _ _ _ _ _ from HCC.out _).mono ?_;rintro ev w4 ⟨rfl,rfl⟩;go_wp2;refine hK15 _ _ (by exact hS_12_7) ?_;clear hK15;intro hS_12_15 hD;refine rP 16 76 2 rfl hD hS_12_15 ?_;clear hD;intro hD;refine rP 17 77 1 rfl hD hS_12_15 ?_;clear hD;intro hD;simp only[Act.put,sqA,sqB,sqC];refine rO 18 0 rfl hD ?_;clear hD;intro K18 hK18;go_wp2;refine hK18 _ _ (by exact hS_12_15) ?_;clear hK18;intro hS_12_18 hD;refine wpAnyK_done (by kernel_rfl) ?_ 0;clear hD;go_wp2;go_ret;exact⟨by show Ending.returned (.bool (decide (k'<0)))=_;rw[HRE.out],HBF.out.trans (HB6.out.mono HBF.out.size)⟩
          · have hc3:decide (0≤c')=false:=decide_eq_false (fun h=>h3 (HC3.out.1 h));have HNW:=Hq (show ¬ wfP s i from fun h=>h3 (HWL.out.1 h).2.1);clear h3;refine wp_region_K 19 (Below (we).heap.size (we)) (by kernel_rfl) ?_;intro hD;rw[hwe];refine rP 0 60 18 rfl hD blr ?_;clear hD;intro hD;refine rT 1 61 17 rfl hD blr (by intro w' hS';have e0:=kC hS' f0;have e1:=kC hS' f1;go_simp;with_reducible rfl) ?_;clear hD;intro hD;simp only[Act.put,sqA,sqB,sqC];refine rO 2 16 rfl hD ?_;clear hD;intro K2 hK2;go_wp2_with fail;refine(show Calls _ _ _ _ _ from HVBd.out).mono ?_;rintro ev w3 ⟨rfl,rfl⟩;go_wp2;refine hK2 _ _ (by exact blr) ?_;clear hK2;intro hS_12_2 hD;refine rP 3 63 15 rfl hD hS_12_2 ?_;clear hD;intro hD;refine rP 4 64 14 rfl hD hS_12_2 ?_;clear hD;intro hD;refine rT 5 65 13 rfl hD hS_12_2 (by intro w' hS';have e0:=kC hS' f0;have e1:=kC hS' f1;go_simp;with_reducible rfl) ?_;clear hD;intro hD;simp only[Act.put,sqA,sqB,sqC];refine rO 6 12 rfl hD ?_;clear hD;intro K6 hK6;go_wp2_with fail;refine(nat_Of 2 (by decide) _).mono ?_;rintro ev w3 ⟨rfl,hb⟩;have HB6:=Hq hb;clear hb;go_wp2;refine hK6 _ _ (by exact Below.trans hS_12_2 (Below.mono HB6.out (Below.size hS_12_2))) ?_;clear hK6;intro hS_12_6 hD;refine rO 7 11 rfl hD ?_;clear hD;intro K7 hK7;go_wp2_with fail;refine(show Calls _ _ _ _ _ from HCB.out _).mono ?_;rintro ev w4 ⟨rfl,rfl⟩;go_wp2;refine hK7 _ _ (by exact hS_12_6) ?_;clear hK7;intro hS_12_7 hD;refine rP 8 68 10 rfl hD hS_12_7 ?_;clear hD;intro hD;refine rP 9 69 9 rfl hD hS_12_7 ?_;clear hD;intro hD;refine rP 10 70 8 rfl hD hS_12_7 ?_;clear hD;intro hD;refine rU 11 71 7 rfl hD hS_12_7 ?_;clear hD;intro hD;refine rU 12 72 6 rfl hD hS_12_7 ?_;clear hD;intro hD;refine rU 13 73 5 rfl hD hS_12_7 ?_;clear hD;intro hD;refine rU 14 74 4 rfl hD hS_12_7 ?_;clear hD;intro hD;refine rU 15 75 3 rfl hD hS_12_7 ?_;clear hD;intro hD;refine rU 16 76 2 rfl hD hS_12_7 ?_;clear hD;intro hD;refine rP 17 77 1 rfl hD hS_12_7 ?_;clear hD;intro hD;simp only[Act.put,sqA,sqB,sqC];refine rO 18 0 rfl hD ?_;clear hD;intro K18 hK18;go_wp2;refine hK18 _ _ (by exact hS_12_7) ?_;clear hK18;intro hS_12_18 hD;refine wpAnyK_done (by kernel_rfl) ?_ 0;have HBE2:=Hq (HBF.out.trans (HB6.out.mono HBF.out.size));try clear hD
            go_wp2;go_ret;exact⟨by show Ending.returned (.bool false)=_;rw[wfB_false HNW.out],HBE2.out⟩
end Go.Proofs.YtdhnkmbjogmmkaaGreatDoor

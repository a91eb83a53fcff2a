import Derived.Test.YtfbmbledklbfgaaGreatQCoE
set_option linter.unusedVariables false
set_option linter.unusedSimpArgs false
namespace Go.Proofs.YtfbmbledklbfgaaGreat
open Go.RowKit Go.Shelf Go.Lib
attribute [local go_sem] Oper.semAt_some
theorem BytesAt.row{W:World}{g:Nat}{cur:Array Value}{ml:List UInt8}(h:W.heap[g]? =some (.cells cur 5 (0,0)))(ht:cur.toList.take 32=Lib.byteCells ml)(hl:ml.length=32)(z cp:Nat)(hz:z≤32)(hzc:z≤cp)(hcp:cp≤9223372036854775807):BytesAt W (some ⟨g,0,none⟩) z cp (ml.take z):=by
 refine⟨by simp[hl];omega,hzc,hcp,fun _=>⟨g,0,rfl,fun j hj=>?_⟩⟩;rw[Nat.zero_add,Lib.cell_of_heap h];have h1:cur.toList[j]? =(Lib.byteCells ml)[j]?:=by rw[←ht,List.getElem?_take,if_pos (by omega)]
 rw[Array.getElem?_toList]at h1;rw[h1];have h2:j<ml.length:=by omega
 simp[Lib.byteCells,byteI,h2,hj]
theorem BytesAt.first{W:World}{g z cp:Nat}{l:List UInt8}(h:BytesAt W (some ⟨g,0,none⟩) z cp l){x:Nat}(hz:0<z)(hx:x≤255):BytesAt (W.setCell ⟨g,0,none⟩ (.int .u8 x)) (some ⟨g,0,none⟩) z cp (UInt8.ofNat x::l.drop 1):=by
 obtain⟨h1,h2,h3,h4⟩:=h;obtain⟨b,o,e,h5⟩:=h4 hz;cases e;refine⟨by simp;omega,h2,h3,fun _=>⟨g,0,rfl,fun j hj=>?_⟩⟩;rcases Nat.eq_zero_or_pos j with h0 | h0
 · subst h0;have hc:=h5 0 hz;rw[Nat.zero_add]at hc⊢;have hs:(W.setCell ⟨g,0,none⟩ (.int .u8 x)).cell? ⟨g,0,none⟩=some (.int .u8 x):=by
    apply World.cell?_setCell_same;exact hc
   rw[hs];have : (UInt8.ofNat x).toNat=x:=by simp[UInt8.toNat_ofNat'];omega
   simp[byteI,this]
 · have hs:(W.setCell ⟨g,0,none⟩ (.int .u8 x)).cell? ⟨g,0+j,none⟩=W.cell? ⟨g,0+j,none⟩:=by
    apply World.cell?_setCell_other;intro e;injection e with _ e2
    omega
   rw[hs,h5 j hj];obtain⟨i,rfl⟩:∃ i,j=i+1:=⟨j - 1,by omega⟩;simp[byteI,List.getD_eq_getElem?_getD,Nat.add_comm]
set_option maxRecDepth 100000
set_option maxHeartbeats 2000000
open Go.RowKit Go.Lib
theorem r33_commitment(M O G Y c r:ByteArray)(hM:M.size≤8)(hk:scK M O G Y=0)(vc:nvalid c=true)(vr:nvalid r=true)(hcq:num c<num O)(w:World):Calls Tryz.prog 62 #[kV M O G Y,.agg #[.string c,.string r]] w (Ret (.string (nS (cmS (num M) (num O) (num G) (num Y) (num c) (num r)))) w):=by
 obtain⟨hv,hc,hz,hg,hy⟩:=scK_ok hk;obtain⟨v1,v2,v3,v4⟩:=all_four hv;have h8:=chk_small hv hM hc;have lO:=num_small h8;have lM:=num_small hM;have hm0:0<num M:=(by obtain⟨i,hu⟩:=has_un (chkK_parts hc).2.2 (genK_parts hg).1;have:=hu.1;omega);have HR1:=Hq (r33_raise M O G r hM v1 hm0 v3 vr);have vd:nvalid (nS (num O - num c))=true:=nvalid_nS.2 (lt128_of_lt8 (by omega));have HMN:=Hq (r01_Minus (num O) (num c) (by rw[←nS_num v2];omega) (by omega));rw[←nS_num v2,←nS_num vc]at HMN;have HR2:=Hq (r33_raise M O Y (nS (num O - num c)) hM v1 hm0 v4 vd);rw[num_nS]at HR2;have HML:=Hq (r03_Mul (num G ^ num r%num M) (num Y ^ (num O - num c)%num M) (num M) (lt128_of_lt8 (by have:=Nat.mod_lt (num G ^ num r) hm0;omega)) (lt128_of_lt8 (by have:=Nat.mod_lt (num Y ^ (num O - num c)) hm0;omega)) lM hm0);rw[←Nat.mul_mod,show num G ^ num r * num Y ^ (num O - num c)%num M=cmS (num M) (num O) (num G) (num Y) (num c) (num r)from rfl,←nS_num v1]at HML;obtain⟨z1,hz1⟩:∃ z,nS (num G ^ num r%num M)=z:=⟨_,rfl⟩;obtain⟨z2,hz2⟩:∃ z,nS (num Y ^ (num O - num c)%num M)=z:=⟨_,rfl⟩;obtain⟨z3,hz3⟩:∃ z,nS (num O - num c)=z:=⟨_,rfl⟩;obtain⟨z4,hz4⟩:∃ z,nS (cmS (num M) (num O) (num G) (num Y) (num c) (num r))=z:=⟨_,rfl⟩;rw[hz1]at HR1;rw[hz2,hz3]at HR2;rw[hz3]at HMN;rw[hz1,hz2,hz4]at HML;rw[hz4];have HX0:=Hq (SG.new w M O G Y c r);obtain⟨W0,hW0⟩:∃ W,(w.alloc (.cells #[.string M,.string O,.string G,.string Y] 26)).alloc (.cells #[.string c,.string r] 28)=W:=⟨_,rfl⟩;rw[hW0]at HX0;obtain⟨c0,c1,c2,c3⟩:=HX0.out.1.1.cells;have s0:=HX0.out.2.c0;have s1:=HX0.out.2.c1;unfold kV gV at *;clear hz1 hz2 hz3 hz4 hM hk vc vr hcq hv hc hz hg hy v1 v2 v3 v4 h8 lO lM hm0 vd;go_enter Tryz.func62,Tryz.ntmps62;go_wp2_with fail;try rw[hW0]
 clear hW0;refine(HR1.out _).mono ?_;rintro ev w1 ⟨rfl,hb⟩;have HX1:=Hq (HX0.out.next hb);clear hb c0 c1 c2 c3 s0 s1;go_wp2;obtain⟨wd,hwd⟩:∃ wd,w1.drew=wd:=⟨_,rfl⟩;have HXd:=Hq (show SG w wd M O G Y c r from by rw[←hwd];exact HX1.out.next (blr).drew);obtain⟨c0,c1,c2,c3⟩:=HXd.out.1.1.cells;have s0:=HXd.out.2.c0;refine wp_region_K 12 (Below (wd).heap.size (wd)) (by kernel_rfl) ?_;intro hD;rw[hwd];have KK1:=Hq (fun w' (hS':(Below (wd).heap.size (wd)) w')=>And.intro (kC hS' c0) (And.intro (kC hS' c1) (And.intro (kC hS' c2) (And.intro (kC hS' c3) (kC hS' s0)))));refine rP 0 16 11 rfl hD blr ?_;clear hD;intro hD;refine rT 1 17 10 rfl hD blr (by intro w' hS';obtain⟨e0,e1,e2,e3,e4⟩:=KK1.out w' hS';go_simp;with_reducible rfl) ?_;clear hD;intro hD;refine rP 2 18 9 rfl hD blr ?_;clear hD;intro hD;refine rT 3 19 8 rfl hD blr (by intro w' hS';obtain⟨e0,e1,e2,e3,e4⟩:=KK1.out w' hS';go_simp;with_reducible rfl) ?_;clear hD;intro hD;refine rP 4 20 7 rfl hD blr ?_;clear hD;intro hD;refine rP 5 21 6 rfl hD blr ?_;clear hD;intro hD;refine rT 6 22 5 rfl hD blr (by intro w' hS';obtain⟨e0,e1,e2,e3,e4⟩:=KK1.out w' hS';go_simp;with_reducible rfl) ?_;clear hD;intro hD;refine rP 7 23 4 rfl hD blr ?_;clear hD;intro hD;refine rT 8 24 3 rfl hD blr (by intro w' hS';obtain⟨e0,e1,e2,e3,e4⟩:=KK1.out w' hS';go_simp;with_reducible rfl) ?_;clear hD;intro hD;simp only[Act.put,sqA,sqB,sqC];refine rO 9 2 rfl hD ?_;clear hD;intro K9 hK9;go_wp2_with fail;refine(HMN.out _).mono ?_;rintro ev w2 ⟨rfl,hb2⟩;have HB9:=Hq hb2;clear hb2;go_wp2;refine hK9 _ _ (by exact HB9.out) ?_;clear hK9;intro hS_2_9 hD;refine rO 10 1 rfl hD ?_;clear hD;intro K10 hK10;go_wp2_with fail;refine(HR2.out _).mono ?_;rintro ev w3 ⟨rfl,hb3⟩;have HB10:=Hq hb3;clear hb3;go_wp2;refine hK10 _ _ (by exact Below.trans hS_2_9 (Below.mono HB10.out (Below.size hS_2_9))) ?_;clear hK10;intro hS_2_10 hD;refine rO 11 0 rfl hD ?_;clear hD;intro K11 hK11;go_wp2;refine hK11 _ _ (by exact hS_2_10) ?_;clear hK11;intro hS_2_11 hD;have HL:=Hq hS_2_11;refine wpAnyK_done (by kernel_rfl) ?_ 0;clear hD;have HX3:=Hq (HXd.out.next HL.out);clear c0 c1 c2 c3 s0;obtain⟨c0,c1,c2,c3⟩:=HX3.out.1.1.cells;go_wp2_with fail;refine(HML.out _).mono ?_;rintro ev w4 ⟨rfl,hb4⟩;have HX4:=Hq (HX3.out.next hb4);clear hb4;go_wp2;go_ret;exact⟨rfl,HX4.out.1.2⟩
set_option maxRecDepth 100000
set_option maxHeartbeats 1000000
open Go.RowKit Go.Shelf
attribute [local go_sem] Oper.semAt_some
def few9(M O:ByteArray)(l:List ByteArray):Bool:=l.all (fun s=>decide (s.size≤20))&&(decide (M.size≤8)&&decide (O.size≤10))
theorem few9_big{M O:ByteArray}{l:List ByteArray}{k:Nat}{s:ByteArray}(h:l[k]? =some s)(hb:20<s.size):few9 M O l=false:=by
 unfold few9;have : l.all (fun s=>decide (s.size≤20))=false:=by
  rw[List.all_eq_false];exact⟨s,List.mem_of_getElem? h,by simp;omega⟩
 rw[this];rfl
theorem few9_all{M O:ByteArray}{l:List ByteArray}(h:∀ k,k<l.length→∃ s,l[k]? =some s∧s.size≤20):few9 M O l=(decide (M.size≤8)&&decide (O.size≤10)):=by
 unfold few9;have : l.all (fun s=>decide (s.size≤20))=true:=by
  rw[List.all_eq_true];intro s hs;obtain⟨k,hk⟩:=List.mem_iff_getElem?.1 hs;obtain⟨s',h1,h2⟩:=h k (List.getElem?_eq_some_iff.1 hk).1;rw[hk]at h1;cases h1;exact decide_eq_true h2
 rw[this];rfl
theorem few9_of{M O:ByteArray}{l:List ByteArray}(h:few9 M O l=true):M.size≤8∧O.size≤10∧∀ s∈l,s.size≤20:=by
 unfold few9 at h;simp only[Bool.and_eq_true,decide_eq_true_eq,List.all_eq_true]at h;exact⟨h.2.1,h.2.2,h.1⟩
theorem law_Few(M O:ByteArray)(l:List ByteArray)(A:Option Addr)(len cap:Nat)(hl:len≤1000)(w:World)(hs:SlN w A len cap l):Calls Tryz.prog 16 #[gV M O,.slice A len cap] w (Ret (.bool (few9 M O l)) w):=by
 have HX0:=Hq (Bx2.new w (.string M) (.string O) 24);have HB0:=Hq ((Below.refl w.heap.size w).alloc nlr (.cells #[.string M,.string O] 24));have c0:=HX0.out.c0;have c1:=HX0.out.c1;have HS:=Hq (hs.kept HB0.out nlr);have HLEN:=Hq hs.1;have hcap:=hs.2.1;have hcap2:=hs.2.2.1;clear hs;unfold gV;go_enter Tryz.func16,Tryz.ntmps16;go_wp2
 go_loop [5] (fun i=>∃ k:Nat,k≤len∧i=.int .i64 k∧∀ j,j<k→∃ s,l[j]? =some s∧s.size≤20) (fun i=>len - (RowKit.intOf i).toNat)
 case atStart=>exact⟨0,Nat.zero_le _,rfl,fun j h=>by omega⟩
 case round =>
  obtain⟨k,hk,rfl,hall⟩:=hrel;have HALL:=Hq hall;clear hall;by_cases hlt:k<len
  · obtain⟨b,o,rfl⟩:=HS.out.head (by omega);obtain⟨s,he⟩:∃ s,l[k]? =some s:=⟨_,List.getElem?_eq_getElem (by rw[HLEN.out];exact hlt)⟩;have d0:=HS.out.get? k he;have HE:=Hq he;clear he;by_cases h1:20<s.size
    · have HF:=Hq (few9_big (M:=M) (O:=O) HE.out h1);have i1:decide ((20:Int)<(s.size:Int))=true:=decide_eq_true (by omega);go_wp2;go_ret;exact⟨by rw[HF.out];rfl,HB0.out⟩
    · have i1:decide ((20:Int)<(s.size:Int))=false:=decide_eq_false (by omega);go_wp2;go_round;case rel =>
       refine⟨k+1,by omega,by go_num,fun j hj=>?_⟩;by_cases hjk:j<k
       · exact HALL.out j hjk
       · obtain rfl:j=k:=by omega
         exact⟨s,HE.out,by omega⟩
      case measure=>simp[RowKit.intOf];omega
  · obtain rfl:k=len:=by omega
    have HF:=Hq (few9_all (M:=M) (O:=O) (l:=l) (fun j hj=>HALL.out j (by have:=HLEN.out;omega)));by_cases h8:M.size≤8
    · rw[decide_eq_true h8,Bool.true_and]at HF;have h8':(M.size:Int)≤8:=by omega
      by_cases h10:O.size≤10
      · rw[decide_eq_true h10]at HF;have h10':(O.size:Int)≤10:=by omega
        go_wp2;go_ret;exact⟨by rw[HF.out];rfl,HB0.out⟩
      · rw[decide_eq_false h10]at HF;have h10':decide ((O.size:Int)≤10)=false:=decide_eq_false (by omega);go_wp2;go_ret;exact⟨by rw[HF.out];rfl,HB0.out⟩
    · rw[decide_eq_false h8,Bool.false_and]at HF;have h8':decide ((M.size:Int)≤8)=false:=decide_eq_false (by omega);go_wp2;go_ret;exact⟨by rw[HF.out];rfl,HB0.out⟩
set_option maxRecDepth 100000
set_option maxHeartbeats 1000000
def few33(M O G H:ByteArray)(l:List ByteArray):Bool:=few9 M O [G,H]&&few9 M O l
theorem few33_of{M O G H:ByteArray}{l:List ByteArray}(h:few33 M O G H l=true):M.size≤8∧O.size≤10∧G.size≤20∧H.size≤20∧∀ s∈l,s.size≤20:=by
 unfold few33 at h;rw[Bool.and_eq_true]at h;obtain⟨a,b,c⟩:=few9_of h.1;exact⟨a,b,c G (by simp),c H (by simp),(few9_of h.2).2.2⟩
theorem law33_Few(M O G H:ByteArray)(l:List ByteArray)(A:Option Addr)(n cap:Nat)(hn:n≤1000)(w:World)(hsl:SlN w A n cap l):Calls Tryz.prog 5 #[kV M O G H,.slice A n cap] w (Ret (.bool (few33 M O G H l)) w):=by
 have HK0:=Hq (SB.new w M O G H);have HS0:=Hq (hsl.kept ((blr).alloc nlr (.cells #[.string M,.string O,.string G,.string H] 26)) nlr);obtain⟨W0,hW0⟩:∃ W,w.alloc (.cells #[.string M,.string O,.string G,.string H] 26)=W:=⟨_,rfl⟩;rw[hW0]at HK0 HS0;have hs2:=sln_alloc W0 [G,H] 22 (by simp);have hbb:=(Below.refl W0.heap.size W0).alloc nlr (.cells #[.string G,.string H] 22);have HF1:=Hq (law_Few M O [G,H] _ 2 2 (by omega) _ hs2);have HK1:=Hq (HK0.out.next hbb);have HS1:=Hq (HS0.out.kept hbb nlr);have HLF:=Hq (fun w hs=>law_Few M O l A n cap hn w hs);obtain⟨c0,c1,c2,c3⟩:=HK0.out.1.cells
 cases h1:few9 M O [G,H]with
 | false =>
  rw[h1]at HF1;have HR:=Hq (show few33 M O G H l=false from by unfold few33;rw[h1];rfl);rw[HR.out];unfold kV gV at *;clear hsl hn hs2 hbb h1;go_enter Tryz.func5,Tryz.ntmps5;go_wp2_with fail;try rw[hW0]
  clear hW0;refine HF1.out.mono ?_;rintro ev w1 ⟨rfl,hb⟩;have HK2:=Hq (HK1.out.next hb);clear hb c0 c1 c2 c3;go_wp2;go_ret;exact⟨rfl,HK2.out.2⟩
 | true =>
  rw[h1]at HF1;have HR:=Hq (show few33 M O G H l=few9 M O l from by unfold few33;rw[h1];rfl);rw[HR.out];unfold kV gV at *;clear hsl hn hs2 hbb h1;go_enter Tryz.func5,Tryz.ntmps5;go_wp2_with fail;try rw[hW0]
  clear hW0;refine HF1.out.mono ?_;rintro ev w1 ⟨rfl,hb⟩;have HK2:=Hq (HK1.out.next hb);have HLL:=Hq (HLF.out _ (HS1.out.kept hb nlr));clear hb c0 c1 c2 c3;obtain⟨c0,c1,c2,c3⟩:=HK2.out.1.cells;go_wp2_with fail;refine HLL.out.mono ?_;rintro ev w2 ⟨rfl,hb⟩;have HK3:=Hq (HK2.out.next hb);clear hb c0 c1 c2 c3;go_wp2;go_ret;exact⟨rfl,HK3.out.2⟩
end Go.Proofs.YtfbmbledklbfgaaGreat

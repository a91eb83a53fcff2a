import Derived.Test.YtfbmbledklbfgaaGreatQShK
set_option linter.unusedVariables false
set_option linter.unusedSimpArgs false
namespace Go.Proofs.YtfbmbledklbfgaaGreat
set_option maxRecDepth 100000
set_option maxHeartbeats 4000000
open Go.RowKit Go.Lib
theorem shE8_drop{q:Nat}(n:Nat)(h:q<8):(shE8 n).drop (7 - q)=UInt8.ofNat (n / 256 ^ q)::(shE8 n).drop (8 - q):=by
 match q,h with
 | 0,_=>simp[shE8]
 | 1,_=>rfl
 | 2,_=>rfl
 | 3,_=>rfl
 | 4,_=>rfl
 | 5,_=>rfl
 | 6,_=>rfl
 | 7,_=>rfl
theorem app_dataT(a b:ByteArray):(a++b).data.toList=a.data.toList++b.data.toList:=by simp
theorem bstr_appendT(l m:List UInt8):bstr l++bstr m=bstr (l++m):=by
 rw[←bstr_of (bstr l++bstr m),app_dataT,bstr_data,bstr_data]
theorem bstr_appS(l:List UInt8)(x:ByteArray):bstr l++x=bstr (l++x.data.toList):=by
 rw[←bstr_appendT,bstr_of]
theorem conv_cellT{w:World}{g:Nat}{c:Int}{cb:UInt8}(h:w.cell? ⟨g,0,none⟩=some (.int .u8 c))(hc:c=(cb.toNat:Int)):(convert 167 9 (.slice (some ⟨g,0,none⟩) 1 1)).run Tryz.prog w=.ok (.string (bstr [cb])) w:=by
 refine BytesAt.conv (bs:=[cb]) (len:=1) (cap:=1) ⟨rfl,Nat.le_refl _,by omega,fun _=>⟨g,0,rfl,fun k hk=>?_⟩⟩ _ _ 5 Tryz.underlying167 Tryz.underlying5 Tryz.underlying9
 match k,hk with
 | 0,_=>rw[h,hc];rfl
theorem r12_Eight(n:Nat)(hn:n≤4611686018427387904)(w:World):Calls Tryz.prog 160 #[.int .i64 n] w (Ret (.string (bstr (shE8 n))) w):=by
 go_enter Tryz.func160,Tryz.ntmps160;go_wp2;go_loopw [0,3,4] (fun x s i wr=>∃ q:Nat,q≤8∧x=.int .i64 ((n / 256 ^ q:Nat):Int)∧s=.string (bstr ((shE8 n).drop (8 - q)))∧i=.int .i64 q∧Below w.heap.size w wr) (fun _ _ i _=>8 - (RowKit.intOf i).toNat);case atStart=>exact⟨0,Nat.zero_le _,by simp,rfl,rfl,Below.refl _ _⟩
 case round =>
  obtain⟨q,hq,rfl,rfl,rfl,hb⟩:=hrel;have HB:=Hq hb;clear hb;by_cases hlt:q<8
  · obtain⟨y,hy⟩:∃ y,n / 256 ^ q=y:=⟨_,rfl⟩;have HY:=Hq hy;have hyb:(y:Int)≤4611686018427387904:=by rw[←hy];have:=Nat.div_le_self n (256 ^ q);omega
    have HD:=Hq (shE8_drop n hlt);rw[hy]at HD⊢;obtain⟨t,ht⟩:∃ t,(shE8 n).drop (8 - q)=t:=⟨_,rfl⟩;have HT:=Hq ht;rw[ht]at HD⊢;have HQ:=Hq hlt;have hqi:(q:Int)<8:=by omega
    have hcv:=conv_cellT (w:=wr.alloc (.cells #[.int .u8 ((y:Int)%256)] 5)) (g:=wr.heap.size) (c:=(y:Int)%256) (cb:=UInt8.ofNat y) (by simp) (by simp[UInt8.toNat_ofNat']);have hadd:=run_string_add_sum (P:=Tryz.prog) (wr.alloc (.cells #[.int .u8 ((y:Int)%256)] 5)) (bstr [UInt8.ofNat y]) (bstr t) (by rw[bstr_size,bstr_size,←ht,List.length_drop];simp[shE8];omega);rw[bstr_appendT]at hadd;clear hy ht hq hlt;go_wp2;refine⟨?_,by have:=HQ.out;simp[RowKit.intOf];omega⟩;refine⟨q+1,HQ.out,?_,?_,rfl,HB.out.alloc HB.out.size _⟩
    · rw[Nat.pow_succ,←Nat.div_div_eq_div_mul,HY.out];rfl
    · rw[show 8 - (q+1)=7 - q from by omega,HD.out]
  · have hq8:q=8:=by omega
    have HQ:=Hq hq8;have hge:¬ ((q:Int)<8):=by omega
    have HR:=Hq (show (shE8 n).drop (8 - q)=shE8 n from by rw[hq8];rfl);rw[HR.out];clear hq hlt hq8;go_wp2;go_ret;exact⟨rfl,HB.out⟩
theorem ptL_take_le{l:List ByteArray}{m:Nat}(h:∀ s∈l,s.size≤m)(hl:l.length≤1000)(k:Nat):(ptL (dt (l.take k))).length≤1000 * (8+m):=
 Nat.le_trans (ptL_le h k) (Nat.mul_le_mul_right _ hl)
theorem r12_Hash(k:UInt8)(A:Option Addr)(n c:Nat)(l:List ByteArray)(hn:n≤1000)(hz:∀ s∈l,s.size≤1000000)(w:World)(hs:SlN w A n c l):Calls Tryz.prog 159 #[.string (bstr [k]),.slice A n c] w (Ret (.string (bstr (trH k (dt l)))) w):=by
 have HS:=Hq hs;have HZ:=Hq hz;have HN:=Hq hn;have HLN:=Hq hs.1;have HE:=Hq (r12_Eight n (by omega));have hadd0:=run_string_add_sum (P:=Tryz.prog);clear hs hz hn;go_enter Tryz.func159,Tryz.ntmps159;go_wp2_with fail;refine(HE.out _).mono ?_;rintro e w1 ⟨rfl,hb1⟩;have hadd:=hadd0 w1 (bstr [k]) (bstr (shE8 n)) (by rw[bstr_size,bstr_size];simp[shE8]);rw[bstr_appendT]at hadd;have HB1:=Hq hb1;have HA:=Hq (fun w a b h=>hadd0 w a b h);clear hb1 hadd0;go_wp2;clear hadd;go_loopw [5,6] (fun s i wr=>∃ q:Nat,q≤n∧s=.string (bstr (k::shE8 n++ptL (dt (l.take q))))∧i=.int .i64 q∧Below w.heap.size w wr) (fun _ i _=>n - (RowKit.intOf i).toNat);case atStart=>exact⟨0,Nat.zero_le _,by simp[ptL,dt],rfl,HB1.out⟩
 case round =>
  obtain⟨q,hq,rfl,rfl,hb⟩:=hrel;have HB:=Hq hb;clear hb;have HPL:=Hq (ptL_take_le HZ.out (by rw[HLN.out];exact HN.out) q);obtain⟨pre,hpre⟩:∃ p,k::shE8 n++ptL (dt (l.take q))=p:=⟨_,rfl⟩;have HPR:=Hq (show pre.length≤2000000000 from by
   rw[←hpre];have h1:=HPL.out;simp[shE8]
   omega)
  have HPP:=Hq hpre;rw[hpre];clear hpre;by_cases hlt:q<n
  · obtain⟨b1,o1,rfl⟩:=HS.out.head (by omega);obtain⟨x,hx⟩:∃ x,l[q]? =some x:=⟨_,List.getElem?_eq_getElem (by have:=HLN.out;omega)⟩;obtain⟨wd,hwd⟩:∃ wd,wr.drew=wd:=⟨_,rfl⟩;have HBD:=Hq (show Below w.heap.size w wd from by rw[←hwd];exact HB.out.drew);have HSD:=Hq (HS.out.kept HBD.out nlr);have hcx:=HSD.out.get? q hx;have HXS:=Hq (HZ.out x (List.mem_of_getElem? hx));have HEX:=Hq (r12_Eight x.size (by have:=HXS.out;omega));have HX:=Hq hx;have HQ:=Hq hlt;have hqi:(q:Int)<n:=by omega
    have hq9:(q:Int)<1000:=by have:=HN.out;omega
    clear hx hq hlt;go_wp2;refine wp_region_K 14 (Below (wd).heap.size (wd)) (by kernel_rfl) ?_;intro hD;rw[hwd];refine rP 0 18 13 rfl hD blr ?_;clear hD;intro hD;refine rP 1 19 12 rfl hD blr ?_;clear hD;intro hD;refine rP 2 20 11 rfl hD blr ?_;clear hD;intro hD;refine rP 3 21 10 rfl hD blr ?_;clear hD;intro hD;refine rT 4 22 9 rfl hD blr (by intro w' hS';have e0:=kC hS' hcx;go_simp;with_reducible rfl) ?_;clear hD;intro hD;refine rP 5 23 8 rfl hD blr ?_;clear hD;intro hD;refine rP 7 25 7 rfl hD blr ?_;clear hD;intro hD;refine rP 8 26 6 rfl hD blr ?_;clear hD;intro hD;refine rP 9 27 5 rfl hD blr ?_;clear hD;intro hD;refine rT 10 28 4 rfl hD blr (by intro w' hS';have e0:=kC hS' hcx;go_simp;with_reducible rfl) ?_;clear hD;intro hD;simp only[Act.put,sqA,sqB,sqC];refine rO 6 3 rfl hD ?_;clear hD;intro K6 hK6;go_wp2_with fail;refine(HEX.out _).mono ?_;rintro e w3 ⟨rfl,hb3⟩;have HB6:=Hq hb3;clear hb3;go_wp2;refine hK6 _ _ (by exact HB6.out) ?_;clear hK6;intro hS_5_6 hD;refine wpAnyK_takeSD (i:=11) (d:=some 29) (v:=(.string (bstr (shE8 x.size++x.data.toList)))) (fuel:=2) rfl (by kernel_rfl) (by kernel_rfl) (by kernel_rfl) (fun _ _ _ h=>h) hD hS_5_6 (.inl ⟨by kernel_rfl,?y5_11b1⟩) ?n5_11b1;case y5_11b1 =>
     intro w' _;go_simp;rw[if_neg (by rw[bstr_size];have:=HXS.out;simp[shE8];omega),bstr_appS]
    clear hD;intro hD;refine wpAnyK_takeSD (i:=12) (d:=some 30) (v:=(.string (bstr (pre++(shE8 x.size++x.data.toList))))) (fuel:=1) rfl (by kernel_rfl) (by kernel_rfl) (by kernel_rfl) (fun _ _ _ h=>h) hD hS_5_6 (.inl ⟨by kernel_rfl,?y5_12b1⟩) ?n5_12b1;case y5_12b1 =>
     intro w' _;go_simp;rw[if_neg (by rw[bstr_size,bstr_size];have:=HPR.out;have:=HXS.out;simp[shE8,data_len];omega),bstr_appendT]
    clear hD;intro hD;simp only[Act.put,sqA,sqB,sqC];refine rO 13 0 rfl hD ?_;clear hD;intro K13 hK13;go_wp2;refine hK13 _ _ (by exact hS_5_6) ?_;clear hK13;intro hS_5_13 hD;have HL:=Hq hS_5_13;refine wpAnyK_done (by kernel_rfl) ?_ 0;clear hD;go_wp2;go_roundw;case rel =>
     refine⟨q+1,HQ.out,?_,rfl,HBD.out.trans (HL.out.mono HBD.out.size)⟩;rw[take_snocT HX.out,dt_snoc,ptL_snoc,data_len,←HPP.out];simp only[List.append_assoc]
    case measure=>have:=HQ.out;simp[RowKit.intOf];omega
  · have hqn:q=n:=by omega
    have HF:=Hq (show pre=frL k (dt l)from by
     rw[←HPP.out,hqn,List.take_of_length_le (by rw[HLN.out];exact Nat.le_refl _)];unfold frL
     rw[dt_length,HLN.out])
    have HSUM:=Hq (r05_Sum (bstr pre) (by rw[bstr_size];have:=HPR.out;omega));rw[bstr_data,HF.out,show shaL (frL k (dt l))=trH k (dt l)from rfl,←HF.out]at HSUM;have hqf:¬ (q:Int)<n:=by omega
    obtain⟨r,hr⟩:∃ r,bstr (trH k (dt l))=r:=⟨_,rfl⟩;have HR:=Hq hr;rw[hr]at HSUM;clear hqn hlt hq hr;go_wp2_with fail;refine(HSUM.out _).mono ?_;rintro e w4 ⟨rfl,hb4⟩;have HB4:=Hq (HB.out.trans (hb4.mono HB.out.size));clear hb4;go_wp2;go_ret;exact⟨by rw[HR.out];rfl,HB4.out⟩
theorem r12_New(a:ByteArray)(ha:a.size≤1000000)(w:World):Calls Tryz.prog 108 #[.string a] w (Ret (.string (bstr (trH 78 (dt [a])))) w):=by
 have HF:=Hq (r12_Hash 78 _ 1 1 [a] (by omega) (by simpa using ha) _ (sln_alloc w [a] 9 (by simp)));rw[show bstr [78]=⟨#[78]⟩from rfl]at HF;obtain⟨r,hr⟩:∃ r,bstr (trH 78 (dt [a]))=r:=⟨_,rfl⟩;rw[hr]at HF⊢;clear hr;have HB:=Hq ((Below.refl w.heap.size w).alloc nlr (.cells #[.string a] 9));go_enter Tryz.func108,Tryz.ntmps108;go_wp2_with fail;refine HF.out.mono ?_;rintro e w1 ⟨rfl,hb⟩;have HB1:=Hq (HB.out.trans (hb.mono HB.out.size));clear hb;go_wp2;go_ret;exact⟨rfl,HB1.out⟩
theorem r12_Add(a b c:ByteArray)(ha:a.size≤1000000)(hb:b.size≤1000000)(hc:c.size≤1000000)(w:World):Calls Tryz.prog 110 #[.string a,.string b,.string c] w (Ret (.string (bstr (trH 65 (dt [a,b,c])))) w):=by
 have HF:=Hq (r12_Hash 65 _ 3 3 [a,b,c] (by omega) (by simp;exact⟨ha,hb,hc⟩) _ (sln_alloc w [a,b,c] 9 (by simp)));rw[show bstr [65]=⟨#[65]⟩from rfl]at HF;obtain⟨r,hr⟩:∃ r,bstr (trH 65 (dt [a,b,c]))=r:=⟨_,rfl⟩;rw[hr]at HF⊢;clear hr;have HB:=Hq ((Below.refl w.heap.size w).alloc nlr (.cells #[.string a,.string b,.string c] 9));clear ha hb hc;go_enter Tryz.func110,Tryz.ntmps110;go_wp2_with fail;refine HF.out.mono ?_;rintro e w1 ⟨rfl,hb⟩;have HB1:=Hq (HB.out.trans (hb.mono HB.out.size));clear hb;go_wp2;go_ret;exact⟨rfl,HB1.out⟩
theorem r12_Nats(a b:ByteArray)(A1:Option Addr)(n1 c1:Nat)(l1:List ByteArray)(ha:a.size≤1000000)(hb:b.size≤1000000)(hn:n1≤900)(hz:∀ s∈l1,s.size≤1000000)(w:World)(h1:SlN w A1 n1 c1 l1):Calls Tryz.prog 109 #[.string a,.string b,.slice A1 n1 c1] w (Ret (.string (bstr (trH 76 (dt ([a,b]++l1))))) w):=by
 obtain⟨i0,hi,hz0,hz1,hz2⟩:=info_parts str_info;have HZ:=Hq (show ∀ s∈[a,b]++l1,s.size≤1000000 from by
  intro s hs;rcases List.mem_append.1 hs with h | h
  · simp at h;rcases h with rfl | rfl<;>assumption
  · exact hz s h)
 have HS:=Hq h1;have HN:=Hq hn;have HO0:=Hq (World.ownsRow_lit (base:=w.heap.size) (e:=9) (size:=1) w #[.string a,.string b] 2 nlr (by decide) rfl);have HB0:=Hq ((Below.refl w.heap.size w).alloc nlr (.cells #[.string a,.string b] 9));have HZ0:=Hq (show w.heap.size≤(w.alloc (.cells #[.string a,.string b] 9)).heap.size from by simp);clear ha hb hz h1 hn;go_enter Tryz.func109,Tryz.ntmps109;go_wp2;go_loopw [7,8] (fun v i wr=>∃ j:Nat,j≤n1∧i=.int .i64 j∧wr.ownsRow w.heap.size 9 1 v (2+j) (([a,b]++l1.take j).map Value.string)∧Below w.heap.size w wr∧w.heap.size≤wr.heap.size) (fun _ i _=>n1 - (RowKit.intOf i).toNat);case atStart=>exact⟨0,Nat.zero_le _,rfl,by simpa using HO0.out,HB0.out,HZ0.out⟩
 case round =>
  obtain⟨j,hj,rfl,hown,hb,hzr⟩:=hrel;have HO:=Hq hown;have HB:=Hq hb;have HZR:=Hq hzr;clear hown hb hzr;by_cases hlt:j<n1
  · obtain⟨b1,o1,rfl⟩:=HS.out.head (by omega);obtain⟨x,hx⟩:∃ x,l1[j]? =some x:=⟨_,List.getElem?_eq_getElem (by have:=HS.out.1;omega)⟩;have hcx:=(HS.out.kept HB.out nlr).get? j hx;have HX:=Hq hx;have HQ:=Hq hlt;have hji:(j:Int)<n1:=by omega
    have hj9:(j:Int)<1000:=by have:=HN.out;omega
    clear hx hlt hj;go_wp2_with (at_builtin;refine wpList_append_own _ rfl (.tmp 18) (.tmp 23) 31 rfl w.heap.size 9 i0 (.string ⟨#[]⟩) 1 16 Tryz.underlying31 hi hz0 hz1 hz2 rfl (by decide) _ (2+j) _ rfl (HO.out.alloc _) ⟨wr.heap.size,0,none⟩ 1 1 [.string x] rfl rfl ?c1 ?c2 ?c3 ?c4 ?c5 ?_);case c1 =>
     intro i u hu
     match i,hu with
     | 0,hu=>simp at hu;subst hu;simp[Addr.add]
     | (i+1),hu=>simp at hu
    case c2=>intro u hu;simp at hu;subst hu;rfl
    case c3=>have:=HN.out;have:=HQ.out;unfold maxLen;omega
    case c4=>have:=HN.out;have:=HQ.out;omega
    case c5=>simp;exact Nat.le_succ_of_le HZR.out
    intro v' w4 hown hgrow _;have HO4:=Hq hown;have HB4:=Hq (show Below w.heap.size w w4 from(HB.out.alloc HZR.out _).grown hgrow (by simp;exact Nat.le_succ_of_le HZR.out) (fun k hk=>(HO.out.lt k hk).1));have HZ4:=Hq (show w.heap.size≤w4.heap.size from by have:=hgrow.size;simp at this;have:=HZR.out;omega);clear hown hgrow hcx;go_wp2;go_roundw;case rel =>
     refine⟨j+1,HQ.out,by go_num,?_,HB4.out,HZ4.out⟩;rw[take_snocT HX.out,←List.append_assoc,List.map_append,←Nat.add_assoc];have h:=HO4.out;simpa[List.map_take]using h
    case measure=>have:=HQ.out;simp[RowKit.intOf];omega
  · have hjn:j=n1:=by omega
    have hjf:¬ (j:Int)<n1:=by omega
    obtain⟨hl9,A,c,rfl,hs9⟩:=SlN.of_owns HO.out;have hs9':SlN wr A (2+j) c ([a,b]++l1):=(by have h:=hs9;rwa[hjn,List.take_of_length_le (by rw[HS.out.1];exact Nat.le_refl _),←hjn]at h);have HF:=Hq (r12_Hash 76 A (2+j) c ([a,b]++l1) (by have:=HN.out;omega) HZ.out wr hs9');rw[show bstr [76]=⟨#[76]⟩from rfl]at HF;obtain⟨r,hr⟩:∃ r,bstr (trH 76 (dt ([a,b]++l1)))=r:=⟨_,rfl⟩;have HR:=Hq hr;rw[hr]at HF;clear hr hs9 hs9' hl9 hjn hlt hj;go_wp2_with fail;refine HF.out.mono ?_;rintro e w4 ⟨rfl,hb4⟩;have HB4:=Hq (HB.out.trans (hb4.mono HZR.out));clear hb4;go_wp2;go_ret;exact⟨by show _=Ending.returned (.string (bstr (trH 76 (dt ([a,b]++l1)))));rw[HR.out];rfl,HB4.out⟩
set_option maxRecDepth 100000
set_option maxHeartbeats 1000000
theorem sls_alloc(w:World)(l:List ByteArray)(h:l.length≤9223372036854775807:=by decide):SlS (w.alloc (.cells (l.map Value.string).toArray 9)) (some ⟨w.heap.size,0,none⟩) l.length l.length l:=
 ⟨sln_alloc w l _ h,(fun e=>by cases e),fun b o e=>by cases e;exact⟨_,_,heap_alloc_new _ _⟩⟩
theorem SlS.none(w:World):SlS w none 0 0 []:=⟨SlN.nil w 0 (by omega) _,fun _=>rfl,fun b o e=>by cases e⟩
theorem tr_plain(k:UInt8)(A1:Option Addr)(n1 c1:Nat)(l1:List ByteArray)(hn:n1≤1000)(hz:∀ s∈l1,s.size≤1000000)(w:World)(h1:SlN w A1 n1 c1 l1) :
 Calls Tryz.prog 148 #[.int .u8 (k.toNat:Int),.slice A1 n1 c1] w (Ret (.string (bstr (trH k (dt l1)))) w):=by
 have HF:=Hq (tr_framedS k none 0 0 [] A1 n1 c1 l1 (by omega) (by simpa using hz) w (SlS.none w) h1);rw[List.nil_append]at HF;obtain⟨r,hr⟩:∃ r,bstr (trH k (dt l1))=r:=⟨_,rfl⟩;rw[hr]at HF⊢;clear hr h1;go_enter Tryz.func148,Tryz.ntmps148;go_wp2_with fail;refine HF.out.mono ?_;rintro e w1 ⟨rfl,hb⟩;go_wp2;go_ret;exact⟨rfl,hb⟩
theorem tr_New(a:ByteArray)(ha:a.size≤1000000)(w:World):Calls Tryz.prog 101 #[.string a] w (Ret (.string (bstr (trH 78 (dt [a])))) w):=by
 have HF:=Hq (tr_plain 78 _ 1 1 [a] (by omega) (by simpa using ha) _ (sln_alloc w [a] 9 (by simp)));obtain⟨r,hr⟩:∃ r,bstr (trH 78 (dt [a]))=r:=⟨_,rfl⟩;rw[hr]at HF⊢;clear hr;have HB:=Hq ((Below.refl w.heap.size w).alloc nlr (.cells #[.string a] 9));go_enter Tryz.func101,Tryz.ntmps101;go_wp2_with fail;refine HF.out.mono ?_;rintro e w1 ⟨rfl,hb⟩;have HB1:=Hq (HB.out.trans (hb.mono HB.out.size));clear hb;go_wp2;go_ret;exact⟨rfl,HB1.out⟩
theorem tr_Add(a b c:ByteArray)(ha:a.size≤1000000)(hb:b.size≤1000000)(hc:c.size≤1000000)(w:World):Calls Tryz.prog 104 #[.string a,.string b,.string c] w (Ret (.string (bstr (trH 65 (dt [a,b,c])))) w):=by
 have HF:=Hq (tr_plain 65 _ 3 3 [a,b,c] (by omega) (by simp;exact⟨ha,hb,hc⟩) _ (sln_alloc w [a,b,c] 9 (by simp)));obtain⟨r,hr⟩:∃ r,bstr (trH 65 (dt [a,b,c]))=r:=⟨_,rfl⟩;rw[hr]at HF⊢;clear hr;have HB:=Hq ((Below.refl w.heap.size w).alloc nlr (.cells #[.string a,.string b,.string c] 9));clear ha hb hc;go_enter Tryz.func104,Tryz.ntmps104;go_wp2_with fail;refine HF.out.mono ?_;rintro e w1 ⟨rfl,hb⟩;have HB1:=Hq (HB.out.trans (hb.mono HB.out.size));clear hb;go_wp2;go_ret;exact⟨rfl,HB1.out⟩
theorem tr_Nats(a b:ByteArray)(A1:Option Addr)(n1 c1:Nat)(l1:List ByteArray)(ha:a.size≤1000000)(hb:b.size≤1000000)(hn:n1≤900)(hz:∀ s∈l1,s.size≤1000000)(w:World)(h1:SlN w A1 n1 c1 l1):Calls Tryz.prog 102 #[.string a,.string b,.slice A1 n1 c1] w (Ret (.string (bstr (trH 76 (dt ([a,b]++l1))))) w):=by
 have hbb:=(Below.refl w.heap.size w).alloc nlr (.cells #[.string a,.string b] 9);have HF:=Hq (tr_framedN 76 _ 2 2 [a,b] A1 n1 c1 l1 (by omega) (by
  intro s hs;rcases List.mem_append.1 hs with h | h
  · simp at h;rcases h with rfl | rfl<;>assumption
  · exact hz s h) _ (sls_alloc w [a,b] (by simp)) (h1.kept hbb nlr))
 obtain⟨r,hr⟩:∃ r,bstr (trH 76 (dt ([a,b]++l1)))=r:=⟨_,rfl⟩;rw[hr]at HF⊢;have HB:=Hq hbb;clear hr hbb ha hb h1 hn hz;go_enter Tryz.func102,Tryz.ntmps102;go_wp2_with fail;refine HF.out.mono ?_;rintro e w1 ⟨rfl,hb⟩;have HB1:=Hq (HB.out.trans (hb.mono HB.out.size));clear hb;go_wp2;go_ret;exact⟨rfl,HB1.out⟩
def vN(f:Nat→Nat):Nat→Nat
 | 0=>0
 | n+1=>vN f n+f n * 256 ^ n
theorem vN_lt{f:Nat→Nat}:∀ {n:Nat},(∀ i,i<n→f i<256)→vN f n<256 ^ n
 | 0,_=>Nat.one_pos
 | n+1,h=>by
  have h1:=vN_lt (n:=n) (fun i hi=>h i (by omega));have h2:f n+1≤256:=h n (by omega);have h3:=Nat.mul_le_mul_right (256 ^ n) h2;unfold vN;rw[Nat.pow_succ];rw[Nat.add_mul]at h3;omega
theorem vN_congr{f g:Nat→Nat}:∀ {n:Nat},(∀ i,i<n→f i=g i)→vN f n=vN g n
 | 0,_=>rfl
 | n+1,h=>by unfold vN;rw[vN_congr (n:=n) (fun i hi=>h i (by omega)),h n (by omega)]
theorem vN_dig(v:Nat):∀ n,vN (dig v) n=v%256 ^ n
 | 0=>by rw[Nat.pow_zero,Nat.mod_one];rfl
 | n+1=>by
  unfold vN;rw[vN_dig v n,Nat.pow_succ,Nat.mod_mul,dig,Nat.mul_comm (256 ^ n)]
theorem vN_split(f:Nat→Nat)(j:Nat):∀ k,vN f (j+k)=vN f j+256 ^ j * vN (fun i=>f (j+i)) k
 | 0=>rfl
 | k+1=>by
  show vN f (j+k)+f (j+k) * 256 ^ (j+k)=_+256 ^ j * (vN (fun i=>f (j+i)) k+f (j+k) * 256 ^ k);rw[vN_split f j k,Nat.pow_add,Nat.mul_add,Nat.add_assoc];congr 1;congr 1;rw[Nat.mul_left_comm]
theorem vN_div{f:Nat→Nat}{j k:Nat}(h:∀ i,i<j→f i<256):vN f (j+k) / 256 ^ j=vN (fun i=>f (j+i)) k:=by
 rw[vN_split,Nat.add_mul_div_left _ _ (Nat.pow_pos (by decide)),Nat.div_eq_of_lt (vN_lt h),Nat.zero_add]
theorem dig_vN{f:Nat→Nat}{n:Nat}(h:∀ i,i<n→f i<256){i:Nat}(hi:i<n):dig (vN f n) i=f i:=by
 obtain⟨k,rfl⟩:∃ k,n=i+(1+k):=⟨n - i - 1,by omega⟩;unfold dig;rw[vN_div (fun j hj=>h j (by omega)),vN_split];show (0+f (i+0) * 256 ^ 0+256 ^ 1 * _)%256=_;rw[Nat.pow_one,Nat.add_mul_mod_self_left,Nat.zero_add,Nat.pow_zero,Nat.mul_one,Nat.add_zero];exact Nat.mod_eq_of_lt (h i (by omega))
theorem dig_scaled{v s i:Nat}(hs:s≤7):dig (v * 2 ^ s) (i+1)=dig v (i+1) * 2 ^ s%256+dig v i / 2 ^ (8 - s):=by
 unfold dig;have e:v * 2 ^ s / 256 ^ (i+1)=v / 256 ^ i / 2 ^ (8 - s):=by
  rw[Nat.pow_succ,show (256:Nat)=2 ^ (8 - s) * 2 ^ s from by rw[←Nat.pow_add,show 8 - s+s=8 from by omega],←Nat.mul_assoc,Nat.mul_div_mul_right _ _ (Nat.pow_pos (by decide)),Nat.div_div_eq_div_mul]
 have e2:v / 256 ^ (i+1)=v / 256 ^ i / 256:=by rw[Nat.pow_succ,Nat.div_div_eq_div_mul]
 rw[e,e2];generalize v / 256 ^ i=z
 match s,hs with
 | 0,_=>simp only[Nat.pow_zero,Nat.mul_one];omega
 | 1,_=>simp only[Nat.reducePow,Nat.reduceSub];omega
 | 2,_=>simp only[Nat.reducePow,Nat.reduceSub];omega
 | 3,_=>simp only[Nat.reducePow,Nat.reduceSub];omega
 | 4,_=>simp only[Nat.reducePow,Nat.reduceSub];omega
 | 5,_=>simp only[Nat.reducePow,Nat.reduceSub];omega
 | 6,_=>simp only[Nat.reducePow,Nat.reduceSub];omega
 | 7,_=>simp only[Nat.reducePow,Nat.reduceSub];omega
theorem dig_scaled0{v s:Nat}:dig (v * 2 ^ s) 0=dig v 0 * 2 ^ s%256:=by
 unfold dig;rw[Nat.pow_zero,Nat.div_one,Nat.div_one,Nat.mod_mul_mod]
theorem dig_back{v s i:Nat}(hs:s≤7):dig (v / 2 ^ s) i=(dig v i+dig v (i+1) * 256) / 2 ^ s%256:=by
 unfold dig;have e2:v / 256 ^ (i+1)=v / 256 ^ i / 256:=by rw[Nat.pow_succ,Nat.div_div_eq_div_mul]
 rw[e2,Nat.div_div_eq_div_mul,Nat.mul_comm,←Nat.div_div_eq_div_mul];generalize v / 256 ^ i=z
 match s,hs with
 | 0,_=>simp only[Nat.pow_zero,Nat.div_one];omega
 | 1,_=>simp only[Nat.reducePow];omega
 | 2,_=>simp only[Nat.reducePow];omega
 | 3,_=>simp only[Nat.reducePow];omega
 | 4,_=>simp only[Nat.reducePow];omega
 | 5,_=>simp only[Nat.reducePow];omega
 | 6,_=>simp only[Nat.reducePow];omega
 | 7,_=>simp only[Nat.reducePow];omega
theorem guess_ge{u d:Nat→Nat}{n:Nat}(hn:0<n)(hu:∀ i,i<n+1→u i<256)(hd:0<d (n - 1))(h:vN u (n+1)<256 * vN d n):vN u (n+1) / vN d n≤min ((u n * 256+u (n - 1)) / d (n - 1)) 255:=by
 obtain⟨m,rfl⟩:∃ m,n=m+1:=⟨n - 1,by omega⟩;rw[Nat.add_sub_cancel]at *;have hD:0<vN d (m+1):=by omega
 have h1:vN u (m+1+1) / vN d (m+1)<256:=by rw[Nat.div_lt_iff_lt_mul hD];omega
 refine Nat.le_min.2 ⟨?_,by omega⟩;rw[Nat.le_div_iff_mul_le hd];have h2:=Nat.div_mul_le_self (vN u (m+1+1)) (vN d (m+1));generalize vN u (m+1+1) / vN d (m+1)=q at *;have h3:vN u m<256 ^ m:=vN_lt (fun i hi=>hu i (by omega));have e1:vN u (m+1+1)=vN u m+(u (m+1) * 256+u m) * 256 ^ m:=by
  show vN u m+u m * 256 ^ m+u (m+1) * 256 ^ (m+1)=_
  rw[Nat.pow_succ];grind
 have e2:vN d (m+1)=vN d m+d m * 256 ^ m:=rfl;rw[e1,e2]at h2;have hP:0<256 ^ m:=Nat.pow_pos (by decide);generalize 256 ^ m=P at *;generalize u (m+1) * 256+u m=U at *;have h4:q * d m * P<(U+1) * P:=by
  have : q * (vN d m+d m * P)=q * vN d m+q * d m * P:=by rw[Nat.mul_add,Nat.mul_assoc]
  rw[Nat.add_mul];omega
 have:=Nat.lt_of_mul_lt_mul_right h4;omega
theorem ms_step{x g d r c b b2 P V1 V2 V3:Nat}(h:x+(c+g * d)%256+b=r+256 * b2)(ih:V1+g * V2=V3+(c+b) * P):(V1+x * P)+g * (V2+d * P)=(V3+r * P)+((c+g * d) / 256+b2) * (256 * P):=by
 have h2:x+g * d+c+b=r+((c+g * d) / 256+b2) * 256:=by omega
 generalize (c+g * d) / 256=c2 at *
 grind
theorem ab_step{x d r c P V1 V2 V3:Nat}(h:x=c+(r+d))(ih:V1+c * P=V3+V2):(V1+x%256 * P)+x / 256 * (256 * P)=(V3+r * P)+(V2+d * P):=by
 have h2:x%256+x / 256 * 256=c+(r+d):=by omega
 generalize x / 256=c2 at *;generalize x%256=c1 at *
 grind
theorem ld_round{f f':Nat→Nat}{A D n j L:Nat}(hf:∀ i,i<L→f i<256)(hL:j+n<L)(hD:0<D)(hDn:D<256 ^ n)(hV:vN f L=A%(D * 256 ^ (j+1)))(hlo:∀ k,k<j→f' k=f k)(hhi:∀ k,j+n<k→f' k=f k)
 (hw:vN (fun i=>f' (j+i)) (n+1)=vN (fun i=>f (j+i)) (n+1)%D):vN f' L=A%(D * 256 ^ j):=by
 obtain⟨k,rfl⟩:∃ k,L=j+((n+1)+k):=⟨L - j - n - 1,by omega⟩;have hPj:0<256 ^ j:=Nat.pow_pos (by decide);have hlt:vN f (j+((n+1)+k))<256 ^ (j+(n+1)):=(by rw[hV];have h1:A%(D * 256 ^ (j+1))<D * 256 ^ (j+1):=Nat.mod_lt _ (Nat.mul_pos hD (Nat.pow_pos (by decide)));have h2:D * 256 ^ (j+1)≤256 ^ n * 256 ^ (j+1):=Nat.mul_le_mul_right _ (Nat.le_of_lt hDn);rw[←Nat.pow_add]at h2;rw[show j+(n+1)=n+(j+1)from by omega];omega);have hup:vN (fun i=>f (j+((n+1)+i))) k=0:=(by have h1:=vN_div (f:=f) (j:=j+(n+1)) (k:=k) (fun i hi=>hf i (by omega));rw[Nat.add_assoc,Nat.div_eq_of_lt hlt]at h1;rw[h1];exact vN_congr (fun i _=>congrArg f (by omega)));have hup':vN (fun i=>f' (j+((n+1)+i))) k=0:=by rw[←hup];exact vN_congr (fun i _=>hhi _ (by omega))
 have e1:vN f' (j+((n+1)+k))=vN f j+256 ^ j * (vN (fun i=>f (j+i)) (n+1)%D):=(by rw[vN_split,vN_split,hup',Nat.mul_zero,Nat.add_zero,hw,vN_congr hlo]);have e2:vN f (j+((n+1)+k))=vN f j+256 ^ j * vN (fun i=>f (j+i)) (n+1):=(by rw[vN_split,vN_split (fun i=>f (j+i)),hup,Nat.mul_zero,Nat.add_zero]);have hl:vN f j<256 ^ j:=vN_lt (fun i hi=>hf i (by omega));rw[e1];have e3:A%(D * 256 ^ j)=(A%(D * 256 ^ (j+1)))%(D * 256 ^ j):=(by rw[Nat.pow_succ,←Nat.mul_assoc,Nat.mod_mul_right_mod]);rw[e3,←hV,e2];generalize vN (fun i=>f (j+i)) (n+1)=U;rw[Nat.mul_comm D,Nat.mod_mul,Nat.add_mul_mod_self_left,Nat.mod_eq_of_lt hl,Nat.add_mul_div_left _ _ hPj,Nat.div_eq_of_lt hl,Nat.zero_add]
theorem ld_digit{f:Nat→Nat}{A D n j L:Nat}(hf:∀ i,i<L→f i<256)(hL:j+n<L)(hD:0<D)(hDn:D<256 ^ n)(hV:vN f L=A%(D * 256 ^ (j+1))):vN (fun i=>f (j+i)) (n+1)=vN f L / 256 ^ j∧vN (fun i=>f (j+i)) (n+1)<256 * D∧vN (fun i=>f (j+i)) (n+1) / D=dig (A / D) j:=by
 obtain⟨k,rfl⟩:∃ k,L=j+((n+1)+k):=⟨L - j - n - 1,by omega⟩;have hPj:0<256 ^ j:=Nat.pow_pos (by decide);have h1:vN f (j+((n+1)+k))<D * 256 ^ (j+1):=by rw[hV];exact Nat.mod_lt _ (Nat.mul_pos hD (Nat.pow_pos (by decide)))
 have hlt:vN f (j+((n+1)+k))<256 ^ (j+(n+1)):=(by have h2:D * 256 ^ (j+1)≤256 ^ n * 256 ^ (j+1):=Nat.mul_le_mul_right _ (Nat.le_of_lt hDn);rw[←Nat.pow_add]at h2;rw[show j+(n+1)=n+(j+1)from by omega];omega);have hup:vN (fun i=>f (j+((n+1)+i))) k=0:=(by have h1:=vN_div (f:=f) (j:=j+(n+1)) (k:=k) (fun i hi=>hf i (by omega));rw[Nat.add_assoc,Nat.div_eq_of_lt hlt]at h1;rw[h1];exact vN_congr (fun i _=>congrArg f (by omega)));have e0:vN f (j+((n+1)+k)) / 256 ^ j=vN (fun i=>f (j+i)) (n+1):=(by rw[vN_div (fun i hi=>hf i (by omega)),vN_split (fun i=>f (j+i)),hup,Nat.mul_zero,Nat.add_zero]);have e1:vN (fun i=>f (j+i)) (n+1)<256 * D:=by
  rw[←e0,Nat.div_lt_iff_lt_mul hPj];rw[Nat.pow_succ]at h1
  grind
 refine⟨e0.symm,e1,?_⟩;rw[←e0,hV,Nat.div_div_eq_div_mul,Nat.pow_succ,←Nat.mul_assoc,Nat.mul_comm (256 ^ j) D,Nat.mod_mul_right_div_self];unfold dig;rw[Nat.div_div_eq_div_mul]
theorem ld_start{A B s n L:Nat}(hnL:n≤L)(hA:A<256 ^ L)(hB:256 ^ (n - 1)≤B)(hn:0<n):A * 2 ^ s=A * 2 ^ s%(B * 2 ^ s * 256 ^ (L - n+1)):=by
 refine(Nat.mod_eq_of_lt ?_).symm;have h1:256 ^ L≤B * 256 ^ (L - n+1):=by
  have:=Nat.mul_le_mul_right (256 ^ (L - n+1)) hB;rw[←Nat.pow_add,show n - 1+(L - n+1)=L from by omega]at this;exact this
 have hP:0<2 ^ s:=Nat.pow_pos (by decide);rw[Nat.mul_right_comm];exact Nat.mul_lt_mul_of_pos_right (by omega) hP
open Go.RowKit
theorem zi_get{n j:Nat}(h:j<n):(zi n)[j]? =some (.int .i64 0):=by
 unfold zi;rw[←Array.getElem?_toList,toList_madeCells_one,List.getElem?_replicate,if_pos h]
def RowI(w:World)(B n:Nat)(f:Nat→Nat):Prop:=∃ cur:Array Value,w.heap[B]? =some (.cells cur 3 (0,0))∧cur.size=n∧∀ j,j<n→cur[j]? =some (.int .i64 (f j))
theorem RowI.start{w:World}(n:Nat):RowI (w.alloc (.cells (zi n) 3)) w.heap.size n (fun _=>0):=⟨_,heap_alloc_new _ _,zi_size n,fun j h=>zi_get h⟩
theorem RowI.cell{w:World}{B n:Nat}{f:Nat→Nat}(h:RowI w B n f){k:Nat}(hk:k<n):w.cell? ⟨B,k,none⟩=some (.int .i64 (f k)):=by
 obtain⟨cur,h1,h2,h3⟩:=h;rw[Lib.cell_of_heap h1];exact h3 k hk
theorem RowI.free{w:World}{B n:Nat}{f:Nat→Nat}(h:RowI w B n f)(k:Nat):w.frozen? ⟨B,k,none⟩=false:=by
 obtain⟨cur,h1,h2,h3⟩:=h;exact Lib.frozen_of_heap h1 k
theorem RowI.lt{w:World}{B n:Nat}{f:Nat→Nat}(h:RowI w B n f):B<w.heap.size:=by
 obtain⟨cur,h1,_⟩:=h;exact block_lt h1
def upd(f:Nat→Nat)(k v:Nat):Nat→Nat:=fun j=>if j=k then v else f j
theorem upd_at(f:Nat→Nat)(k v:Nat):upd f k v k=v:=if_pos rfl
theorem upd_off(f:Nat→Nat){k v j:Nat}(h:¬ (j=k)):upd f k v j=f j:=if_neg h
theorem RowI.set{w:World}{B n k:Nat}{f:Nat→Nat}(h:RowI w B n f)(v:Nat):RowI (w.setCell ⟨B,k,none⟩ (.int .i64 v)) B n (upd f k v):=by
 obtain⟨cur,h1,h2,h3⟩:=h;refine⟨_,block_setCell h1 _,by rw[Array.size_setIfInBounds,h2],fun j hj=>?_⟩;rw[Array.getElem?_setIfInBounds];by_cases e:k=j
 · subst e;rw[if_pos rfl,if_pos (by omega),upd_at]
 · rw[if_neg e,upd_off f (by omega)];exact h3 j hj
theorem RowI.congr{w:World}{B n:Nat}{f g:Nat→Nat}(h:RowI w B n f)(e:∀ j,j<n→f j=g j):RowI w B n g:=by
 obtain⟨cur,h1,h2,h3⟩:=h;exact⟨cur,h1,h2,fun j hj=>by rw[←e j hj];exact h3 j hj⟩
theorem RowI.heap{w w':World}{B n:Nat}{f:Nat→Nat}(h:RowI w B n f)(e:w'.heap[B]? =w.heap[B]?):RowI w' B n f:=by
 obtain⟨cur,h1,h2⟩:=h;exact⟨cur,e.trans h1,h2⟩
def OutH(w:World)(B n j v:Nat):Prop:=∃ cur:Array Value,w.heap[B]? =some (.cells cur 5 (0,0))∧cur.size=n∧∀ k,j≤k→k<n→cur[n - 1 - k]? =some (.int .u8 (dig v k))
theorem OutH.start{w:World}(n v:Nat):OutH (w.alloc (.cells (zb n) 5)) w.heap.size n n v:=⟨_,heap_alloc_new _ _,zb_size n,fun j h h2=>by omega⟩
theorem OutH.cell{w:World}{B n j v:Nat}(h:OutH w B n j v){k:Nat}(hk:k<n):∃ u,w.cell? ⟨B,k,none⟩=some u:=by
 obtain⟨cur,h1,h2,h3⟩:=h;exact⟨_,by rw[Lib.cell_of_heap h1];exact Array.getElem?_eq_getElem (by omega)⟩
theorem OutH.free{w:World}{B n j v:Nat}(h:OutH w B n j v)(k:Nat):w.frozen? ⟨B,k,none⟩=false:=by
 obtain⟨cur,h1,h2,h3⟩:=h;exact Lib.frozen_of_heap h1 k
theorem OutH.step{w:World}{B n j v k:Nat}(h:OutH w B n (j+1) v)(hk:k+1+j=n):OutH (w.setCell ⟨B,k,none⟩ (.int .u8 (dig v j))) B n j v:=by
 obtain⟨cur,h1,h2,h3⟩:=h;refine⟨_,block_setCell h1 _,by rw[Array.size_setIfInBounds,h2],fun i hi hin=>?_⟩;rw[Array.getElem?_setIfInBounds];by_cases e:i=j
 · subst e;rw[if_pos (by omega),if_pos (by omega)]
 · rw[if_neg (by omega)];exact h3 i (by omega) hin
theorem OutH.out{w:World}{B n v:Nat}(h:OutH w B n 0 v):OutB w B n n v:=by
 obtain⟨cur,h1,h2,h3⟩:=h;exact⟨cur,h1,h2,fun j hj=>h3 j (Nat.zero_le _) hj⟩
theorem OutH.lt{w:World}{B n j v:Nat}(h:OutH w B n j v):B<w.heap.size:=by
 obtain⟨cur,h1,_⟩:=h;exact block_lt h1
theorem OutH.heap{w w':World}{B n j v:Nat}(h:OutH w B n j v)(e:w'.heap[B]? =w.heap[B]?):OutH w' B n j v:=by
 obtain⟨cur,h1,h2⟩:=h;exact⟨cur,e.trans h1,h2⟩
theorem OutB.heap{w w':World}{B n j v:Nat}(h:OutB w B n j v)(e:w'.heap[B]? =w.heap[B]?):OutB w' B n j v:=by
 obtain⟨cur,h1,h2⟩:=h;exact⟨cur,e.trans h1,h2⟩
end Go.Proofs.YtfbmbledklbfgaaGreat

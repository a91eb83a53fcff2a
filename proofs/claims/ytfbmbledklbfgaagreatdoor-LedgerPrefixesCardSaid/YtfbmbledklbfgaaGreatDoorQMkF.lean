import Derived.Test.YtfbmbledklbfgaaGreatDoorQMkB
set_option linter.unusedVariables false
set_option linter.unusedSimpArgs false
namespace Go.Proofs.YtfbmbledklbfgaaGreatDoor
set_option maxRecDepth 100000
set_option maxHeartbeats 1000000
open Go.RowKit
theorem pow_small{a:Nat}(h:2 ^ a<1000001):a<62:=by
 rcases Nat.lt_or_ge a 62 with c | c
 · exact c
 · have:=Nat.pow_le_pow_right (n:=2) (by omega) c;omega
theorem m_half(n:Nat)(h2:2≤n)(hn:n≤1000000)(w:World):Calls Tryz.prog 31 #[.int .i64 n] w (RetQ (.int .i64 (halfN n)) w):=by
 go_enter Tryz.func31,Tryz.ntmps31;go_wp2
 go_loop [3,4] (fun k i=>∃ j p:Nat,p=2 ^ j∧p<n∧j<62∧k=.int .i64 p∧i=.int .i64 j) (fun k _=>n - (intOf k).toNat)
 case atStart=>exact⟨0,1,rfl,by omega,by omega,rfl,rfl⟩
 case round =>
  obtain⟨j,p,hp,hlt,hj,rfl,rfl⟩:=hrel;have HP:=Hq hp;have hp0:1≤p:=by rw[hp];exact Nat.one_le_two_pow
  clear hp;by_cases hc:n≤2 * p
  · have HH:=Hq (show halfN n=p from by rw[HP.out]at hlt hc⊢;exact halfN_of hlt hc);have hc':(n:Int) - p≤p:=by omega
    go_wp2;go_ret;exact⟨by rw[HH.out];rfl,rfl⟩
  · have hc':¬ ((n:Int) - p≤p):=by omega
    have HN:=Hq (show p * 2=2 ^ (j+1)from by rw[HP.out,Nat.pow_succ]);have hj2:j+1<62:=pow_small (by rw[←HN.out];omega);go_wp2;go_round;case rel=>exact⟨j+1,p * 2,HN.out,by omega,hj2,by go_num,by go_num⟩
    case measure=>simp[intOf];omega
set_option maxRecDepth 100000
set_option maxHeartbeats 4000000
theorem rootL_size'(l:List ByteArray):(rootL l).size=32:=by
 have h:∀(f:Nat) (l:List ByteArray),(rootF f l).size=32:=by
  intro f
  induction f with
  | zero=>intro l;unfold rootF;rw[bstr_size,shaL_length]
  | succ f ih =>
   intro l;unfold rootF;split
   · rw[bstr_size,shaL_length]
   · split
     · unfold leafH;rw[bstr_size,shaL_length]
     · unfold nodeH;rw[bstr_size,shaL_length]
 exact h _ _
theorem m_Root:∀(f:Nat) (l:List ByteArray) (A:Option Addr) (n c:Nat) (w:World),l.length≤f→n≤4096→(∀ s∈l,s.size≤1000000)→SlN w A n c l→Calls Tryz.prog 18 #[.slice A n c] w (Ret (.string (rootL l)) w):=by
 intro f
 induction f with
 | zero =>
  intro l A n c w hf hn hsz hs;have hl:l=[]:=List.length_eq_zero_iff.1 (by omega);subst hl;obtain rfl:n=0:=hs.1.symm;have HS:=Hq (h_Sum ⟨#[]⟩ (by decide) w);rw[show (⟨#[]⟩:ByteArray).data.toList=[]from rfl]at HS;have HR:=Hq rootL_nil;clear hs hsz;go_enter Tryz.func18,Tryz.ntmps18;go_wp2_with fail;refine HS.out.mono ?_;rintro e w1 ⟨rfl,hb⟩;have HB:=Hq hb;clear hb;go_wp2;go_ret;exact⟨by rw[HR.out];rfl,HB.out⟩
 | succ f ih =>
  intro l A n c w hf hn hsz hs;have hcap:=hs.2.1;have hcap2:=hs.2.2.1;have HLEN:=Hq hs.1;rcases Nat.lt_or_ge n 2 with h2 | h2
  · rcases Nat.lt_or_ge n 1 with h1 | h1
    · have hl:l=[]:=List.length_eq_zero_iff.1 (by have:=hs.1;omega);subst hl;obtain rfl:n=0:=hs.1.symm;have HS:=Hq (h_Sum ⟨#[]⟩ (by decide) w);rw[show (⟨#[]⟩:ByteArray).data.toList=[]from rfl]at HS;have HR:=Hq rootL_nil;clear hs hsz ih;go_enter Tryz.func18,Tryz.ntmps18;go_wp2_with fail;refine HS.out.mono ?_;rintro e w1 ⟨rfl,hb⟩;have HB:=Hq hb;clear hb;go_wp2;go_ret;exact⟨by rw[HR.out];rfl,HB.out⟩
    · obtain rfl:n=1:=by omega
      obtain⟨x,hx⟩:∃ x,l=[x]:=List.length_eq_one_iff.1 hs.1;subst hx;obtain⟨b,o,rfl⟩:=hs.head (by omega);have hc0:w.cell? ⟨b,o,none⟩=some (.string x):=hs.get? 0 rfl;have HS:=Hq (m_leaf x (by have:=hsz x (by simp);omega) w);have HR:=Hq (rootL_one x);clear hs hsz ih;go_enter Tryz.func18,Tryz.ntmps18;go_wp2_with fail;refine HS.out.mono ?_;rintro e w1 ⟨rfl,hb⟩;have HB:=Hq hb;clear hb;go_wp2;go_ret;exact⟨by rw[HR.out];rfl,HB.out⟩
  · obtain⟨b,o,rfl⟩:=hs.head (by omega);have HR:=Hq (rootL_more (l:=l) (by have:=hs.1;omega));have HH:=Hq (m_half n h2 (by omega));have hk1:=halfN_pos n;have hk2:=halfN_lt h2;rw[HLEN.out]at HR;obtain⟨k,hk⟩:∃ k,halfN n=k:=⟨_,rfl⟩;rw[hk]at HR HH hk1 hk2;have HS1:=Hq (fun W (hb:Below w.heap.size w W)=>ih (l.take k) (some ⟨b,o,none⟩) k c W (by rw[List.length_take];have:=HLEN.out;omega) (by omega) (fun s h=>hsz s (List.mem_of_mem_take h)) ((hs.takeK k (by omega)).kept hb nlr));have HS2:=Hq (fun W (hb:Below w.heap.size w W)=>ih (l.drop k) (some ⟨b,o+k,none⟩) (n - k) (c - k) W (by rw[List.length_drop];have:=HLEN.out;omega) (by omega) (fun s h=>hsz s (List.mem_of_mem_drop h)) ((hs.dropK k (by omega)).kept hb nlr));have HN:=Hq (m_node (rootL (l.take k)) (rootL (l.drop k)) (by rw[rootL_size'];omega) (by rw[rootL_size'];omega));rw[←HR.out]at HN;obtain⟨r1,hr1⟩:∃ r,rootL (l.take k)=r:=⟨_,rfl⟩;obtain⟨r2,hr2⟩:∃ r,rootL (l.drop k)=r:=⟨_,rfl⟩;obtain⟨r,hr⟩:∃ r,rootL l=r:=⟨_,rfl⟩;rw[hr1]at HS1;rw[hr2]at HS2;rw[hr1,hr2,hr]at HN;rw[hr];have hkc:k≤c:=by omega
    have hkn:k≤n:=by omega
    have hck:¬ c=k:=by omega
    clear hs hsz ih hk hr1 hr2 hr HR hf;go_enter Tryz.func18,Tryz.ntmps18;go_wp2_with fail;refine(HH.out _).mono ?_;rintro e w1 ⟨rfl,rfl⟩;go_wp2;refine wp_region_K 10 (Below (w.drew).heap.size (w.drew)) (by kernel_rfl) ?_;intro hD;refine rP 0 18 9 rfl hD blr ?_;clear hD;intro hD;refine rP 1 19 8 rfl hD blr ?_;clear hD;intro hD;refine rP 2 20 7 rfl hD blr ?_;clear hD;intro hD;refine rP 4 22 6 rfl hD blr ?_;clear hD;intro hD;refine rP 5 23 5 rfl hD blr ?_;clear hD;intro hD;refine rP 6 24 4 rfl hD blr ?_;clear hD;intro hD;simp only[Act.put,sqA,sqB,sqC];refine rO 3 3 rfl hD ?_;clear hD;intro K3 hK3;go_wp2_with fail;refine(HS1.out _ ((blr).drew)).mono ?_;rintro ev w2 ⟨rfl,hb⟩;have HB3:=Hq hb;clear hb;go_wp2;refine hK3 _ _ (by exact HB3.out) ?_;clear hK3;intro hS_7_3 hD;refine rO 7 2 rfl hD ?_;clear hD;intro K7 hK7;go_wp2_with fail;refine(HS2.out _ (((blr).drew).trans (hS_7_3.mono nlr))).mono ?_;rintro ev w3 ⟨rfl,hb⟩;have HB7:=Hq hb;clear hb;go_wp2;refine hK7 _ _ (by exact Below.trans hS_7_3 (Below.mono HB7.out (Below.size hS_7_3))) ?_;clear hK7;intro hS_7_7 hD;refine rO 8 1 rfl hD ?_;clear hD;intro K8 hK8;go_wp2_with fail;refine(HN.out _).mono ?_;rintro ev w4 ⟨rfl,hb⟩;have HB8:=Hq hb;clear hb;go_wp2;refine hK8 _ _ (by exact Below.trans hS_7_7 (Below.mono HB8.out (Below.size hS_7_7))) ?_;clear hK8;intro hS_7_8 hD;refine rO 9 0 rfl hD ?_;clear hD;intro K9 hK9;go_wp2;refine hK9 _ _ (by exact hS_7_8) ?_;clear hK9;intro hS_7_9 hD;refine wpD ?_;have HL:=Hq hS_7_9;clear hD;go_wp2;go_ret;exact⟨rfl,((blr).drew).trans (HL.out.mono nlr)⟩
set_option maxRecDepth 100000
set_option maxHeartbeats 2000000
theorem strM_info:(Tryz.prog.info? 9).map (fun i=>(i.zero,i.size,i.bytes))=some (some (.string ⟨#[]⟩),1,16):=by kernel_rfl
def RetSs(l:List ByteArray)(n:Nat)(w:World)(e:Ending)(w':World):Prop:=∃ A c,e=.returned (.slice A n c)∧SlN w' A n c l∧(0<n→∀ b o,A=some ⟨b,o,none⟩→w.heap.size≤b)∧Below w.heap.size w w'
theorem own_strs{w:World}{base:Nat}{v:Value}{n:Nat}{l:List ByteArray}(h:w.ownsRow base 9 1 v n (l.map Value.string)):∃ A c,v=.slice A n c∧SlN w A n c l∧(0<n→∀ b o,A=some ⟨b,o,none⟩→base≤b):=by
 obtain⟨_,A,c,rfl,hs⟩:=SlN.of_owns h;refine⟨A,c,rfl,hs,fun h0 b o he=>?_⟩;obtain⟨g,cap,hv,h1,h2⟩:=h.form h0;cases hv;cases he;exact h1
theorem cl_strs(l:List ByteArray)(A:Option Addr)(len cap:Nat)(w:World)(hs:SlN w A len cap l)(hlb:len≤1000000000000):Calls Tryz.prog 59 #[.slice A len cap] w (RetSs l len w):=by
 have hee:=fun(w:World) (a:Option Addr) (n c:Nat)=>Lib.run_eql_slice_nil (P:=Tryz.prog) w 41 9 a n c 0 0 Tryz.underlying41
 cases A with
 | none =>
  have h0:len=0:=by
   rcases Nat.eq_zero_or_pos len with h | h
   · exact h
   · obtain⟨b,o,e⟩:=hs.head h;cases e
  subst h0;have hl:l=[]:=List.length_eq_zero_iff.1 hs.1;subst hl;clear hs;go_enter Tryz.func59,Tryz.ntmps59;go_wp2;go_ret;exact⟨none,0,rfl,SlN.nil _ 0 (by omega) _,fun h=>absurd h (Nat.lt_irrefl _),Below.refl _ _⟩
 | some ad =>
  have hcells:=hs.cells;have HC:=Hq hcells;have HV:=Hq (show (l.map Value.string).length=len * 1 from by rw[List.length_map,hs.1,Nat.mul_one]);have HO:=Hq (strs_one l);obtain⟨i0,hi,hz0,hz1,hz2⟩:=info_parts strM_info;clear hs hcells;go_enter Tryz.func59,Tryz.ntmps59;go_wp2_with (at_builtin;refine wpList_append_own _ rfl (.tmp 5) (.tmp 6) 41 rfl w.heap.size 9 i0 _ 1 16 Tryz.underlying41 hi hz0 hz1 hz2 rfl (by decide) _ 0 [] rfl (World.ownsRow_made w _ _ nlr ?h0 ?h9) ad len cap (l.map Value.string) rfl ?h1 ?h2 HO.out ?h4 ?h5 ?h6 ?_);case h0=>unfold maxLen;omega
  case h9=>rfl
  case h1=>exact HV.out
  case h2=>exact fun j u hj=>cell_kept (w:=w) ((blr).alloc nlr _) nlr (HC.out j u hj)
  case h4=>unfold maxLen;omega
  case h5=>omega
  case h6=>simp
  intro v' w' hown hgrow _;have hb:Below w.heap.size w w':=((blr).alloc nlr _).grown hgrow (by simp) (fun k e=>by simp only[Value.ownBlock,Option.some.injEq]at e;omega);have HOWN:=Hq hown;have HB:=Hq hb;clear hown hgrow hb;go_wp2;go_ret;obtain⟨A,c,rfl,h2,h3⟩:=own_strs HOWN.out;exact⟨A,c,by simp,by simpa using h2,by simpa using h3,HB.out⟩
theorem SlN.setM{W:World}{A:Option Addr}{n c R k:Nat}{l:List ByteArray}{u:Value}(h:SlN W A n c l)(hf:0<n→∀ b o,A=some ⟨b,o,none⟩→b≠R):SlN (W.setCell ⟨R,k,none⟩ u) A n c l:=by
 obtain⟨h1,h2,h3,b,o,h4,h5⟩:=h;refine⟨h1,h2,h3,b,o,h4,fun j s hj=>?_⟩;have hlt:=(List.getElem?_eq_some_iff.1 hj).1;have hb:=hf (by omega) b o (h4 (by omega));rw[World.cell?_of_block (w:=W) (heap_setCell_other _ _ _ _ hb)];exact h5 j s hj
structure Oth2 (R K:Nat) (w w':World):Prop where
 os:w'.os=w.os
 tape:w'.tape=w.tape
 output:w'.output=w.output
 size:w.heap.size≤w'.heap.size
 block:∀ k,k<w.heap.size→k≠R→k≠K→w'.heap[k]? =w.heap[k]?
theorem Oth2.refl(R K:Nat)(w:World):Oth2 R K w w:=⟨rfl,rfl,rfl,Nat.le_refl _,fun _ _ _ _=>rfl⟩
theorem Oth2.trans{R K:Nat}{a b c:World}(h:Oth2 R K a b)(k:Oth2 R K b c):Oth2 R K a c:=
 ⟨k.os.trans h.os,k.tape.trans h.tape,k.output.trans h.output,Nat.le_trans h.size k.size,fun i hi h1 h2=>(k.block i (Nat.lt_of_lt_of_le hi h.size) h1 h2).trans (h.block i hi h1 h2)⟩
theorem Oth2.of_below{R K:Nat}{w w':World}(h:Below w.heap.size w w'):Oth2 R K w w':=⟨h.os,h.tape,h.output,h.size,fun k hk _ _=>h.block k hk⟩
theorem Oth2.setCell{R K:Nat}{w0 w:World}(h:Oth2 R K w0 w){C k:Nat}(hC:C=R∨C=K)(u:Value):Oth2 R K w0 (w.setCell ⟨C,k,none⟩ u):=by
 have hb:Below 0 w (w.setCell ⟨C,k,none⟩ u):=(blr).setCell (Nat.zero_le _) u;refine⟨hb.os.trans h.os,hb.tape.trans h.tape,hb.output.trans h.output,Nat.le_trans h.size hb.size,fun i hi h1 h2=>?_⟩;rw[heap_setCell_other _ _ _ _ (show i≠C from by rcases hC with e | e<;>subst e<;>assumption)];exact h.block i hi h1 h2
theorem Oth2.below{R K B:Nat}{w w':World}(h:Oth2 R K w w')(hR:B≤R)(hK:B≤K)(hB:B≤w.heap.size):Below B w w':=⟨h.os,h.tape,h.output,h.size,fun k hk=>h.block k (by omega) (by omega) (by omega)⟩
structure XS (W:World) (B R K P C:Nat) (bf:ByteArray) (A:Option Addr) (n c:Nat) (p:List ByteArray) (ok:Bool):Prop where
 b:W.heap[B]? =some (.cells #[.string bf] 9 (0,0))
 r:W.heap[R]? =some (.cells #[.slice A n c] 41 (0,0))
 k:W.heap[K]? =some (.cells #[.bool ok] 4 (0,0))
 f:W.heap[P]? =some (.cells #[.func (.func 60) #[] #[.pointer (some ⟨R,0,none⟩),.pointer (some ⟨K,0,none⟩)]] 116 (0,0))
 g:W.heap[C]? =some (.cells #[.func (.func 61) #[] #[.pointer (some ⟨K,0,none⟩),.pointer (some ⟨B,0,none⟩),.pointer (some ⟨P,0,none⟩),.pointer (some ⟨C,0,none⟩)]] 117 (0,0))
 s:SlN W A n c p
 ad:0<n→∀ q o,A=some ⟨q,o,none⟩→q≠R∧q≠K
theorem XS.next{W W':World}{B R K P C:Nat}{bf:ByteArray}{A:Option Addr}{n c:Nat}{p:List ByteArray}{ok:Bool}(h:XS W B R K P C bf A n c p ok)(hb:Below W.heap.size W W'):XS W' B R K P C bf A n c p ok:=
 ⟨(hb.block _ (block_lt h.b)).trans h.b,(hb.block _ (block_lt h.r)).trans h.r,(hb.block _ (block_lt h.k)).trans h.k,(hb.block _ (block_lt h.f)).trans h.f,(hb.block _ (block_lt h.g)).trans h.g,h.s.kept hb nlr,h.ad⟩
def Dis5(B R K P C:Nat):Prop:=R≠K∧B≠R∧B≠K∧P≠R∧P≠K∧C≠R∧C≠K
theorem one_cell{W:World}{B:Nat}{v:Value}{T:TypeId}(h:W.heap[B]? =some (.cells #[v] T (0,0))):W.cell? ⟨B,0,none⟩=some v:=by rw[Lib.cell_of_heap h];rfl
theorem mx_pop(B R K P C:Nat)(bf:ByteArray)(A:Option Addr)(n c:Nat)(p:List ByteArray)(ok:Bool)(w:World)(h:XS w B R K P C bf A n c p ok)(hd:Dis5 B R K P C)(hn:n≤4096) :
 Calls Tryz.prog 60 #[.pointer (some ⟨R,0,none⟩),.pointer (some ⟨K,0,none⟩)] w (fun e w'=>∃ n' c',e=.returned (.string (popC p ok).1)∧XS w' B R K P C bf A n' c' (popC p ok).2.1 (popC p ok).2.2∧n'≤n∧Oth2 R K w w'):=by
 obtain⟨d1,d2,d3,d4,d5,d6,d7⟩:=hd;have r0:=one_cell h.r;have k0:=one_cell h.k;have rf:=Lib.frozen_of_heap h.r 0;have kf:=Lib.frozen_of_heap h.k 0;have HXS:=Hq h;have HLEN:=Hq h.s.1;have hcap:=h.s.2.1;have hcap2:=h.s.2.2.1;rcases Nat.eq_zero_or_pos n with h0 | h0
 · have hp:p=[]:=List.length_eq_zero_iff.1 (by rw[h.s.1];exact h0);subst h0 hp;clear h;go_enter Tryz.func60,Tryz.ntmps60;go_wp2;go_ret;have hx:=HXS.out;exact⟨0,c,rfl,⟨(heap_setCell_other _ _ _ _ d3).trans hx.b,(heap_setCell_other _ _ _ _ d1).trans hx.r,block_setCell hx.k _,(heap_setCell_other _ _ _ _ d5).trans hx.f,(heap_setCell_other _ _ _ _ d7).trans hx.g,SlN.nil _ _ hcap2 _,fun h=>absurd h (Nat.lt_irrefl _)⟩,Nat.le_refl _,(Oth2.refl _ _ _).setCell (.inr rfl) _⟩
 · obtain⟨m,rfl⟩:∃ m,n=m+1:=⟨n - 1,by omega⟩;obtain⟨b,o,rfl⟩:=h.s.head (by omega);obtain⟨x,hx⟩:∃ x,p[m]? =some x:=⟨_,List.getElem?_eq_getElem (by rw[HLEN.out];omega)⟩;have hl:p.getLast? =some x:=by rw[List.getLast?_eq_getElem?,HLEN.out,Nat.add_sub_cancel];exact hx
   have e0:w.cell? ⟨b,o+m,none⟩=some (.string x):=h.s.get? m hx;have HAD:=Hq (h.ad (by omega) b o rfl);have HPC:=Hq (popC_some ok hl);have HSS:=Hq (show SlN w (some ⟨b,o,none⟩) m c p.dropLast from by rw[List.dropLast_eq_take,HLEN.out,Nat.add_sub_cancel];exact h.s.takeK m (by omega));have hmc:m≤c:=by omega
   clear h hx hl;go_enter Tryz.func60,Tryz.ntmps60;go_wp2;go_ret;have hx:=HXS.out;rw[HPC.out];exact⟨m,c,rfl,⟨(heap_setCell_other _ _ _ _ d2).trans hx.b,block_setCell hx.r _,(heap_setCell_other _ _ _ _ d1.symm).trans hx.k,(heap_setCell_other _ _ _ _ d4).trans hx.f,(heap_setCell_other _ _ _ _ d6).trans hx.g,HSS.out.setM (fun _ q o' e=>by cases e;exact HAD.out.1),fun _ q o' e=>by cases e;exact HAD.out⟩,by omega,(Oth2.refl _ _ _).setCell (.inl rfl) _⟩
end Go.Proofs.YtfbmbledklbfgaaGreatDoor

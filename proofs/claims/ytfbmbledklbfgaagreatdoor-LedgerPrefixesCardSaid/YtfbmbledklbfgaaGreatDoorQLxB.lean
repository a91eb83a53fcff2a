import Derived.Test.YtfbmbledklbfgaaGreatDoorQLxA
set_option linter.unusedVariables false
set_option linter.unusedSimpArgs false
namespace Go.Proofs.YtfbmbledklbfgaaGreatDoor
set_option maxRecDepth 100000
set_option maxHeartbeats 8000000
open Go.RowKit
theorem nodeH_size(a b:ByteArray):(nodeH a b).size=32:=by unfold nodeH;rw[bstr_size,shaL_length]
theorem popC_small{p:List ByteArray}(ok:Bool)(h:∀ x∈p,x.size≤100):(popC p ok).1.size≤100∧∀ x∈(popC p ok).2.1,x.size≤100:=by
 cases hp:p.getLast? with
 | none=>rw[popC_none ok hp];exact⟨Nat.zero_le _,h⟩
 | some x=>rw[popC_some ok hp];exact⟨h x (List.mem_of_getLast? hp),fun y hy=>h y (List.dropLast_subset p hy)⟩
theorem climbF_small:∀(f:Nat) (B:ByteArray) (m n:Nat) (wh:Bool) (p:List ByteArray) (ok:Bool),B.size≤100→(∀ x∈p,x.size≤100) →
 (climbF f B m n wh p ok).1.1.size≤100∧(climbF f B m n wh p ok).1.2.size≤100∧∀ x∈(climbF f B m n wh p ok).2.1,x.size≤100
 | 0,B,m,n,wh,p,ok,hB,hp=>⟨Nat.zero_le _,Nat.zero_le _,hp⟩
 | f+1,B,m,n,wh,p,ok,hB,hp=>by
  have hc:=popC_small ok hp;rw[climbF_succ];split
  · exact⟨Nat.zero_le _,Nat.zero_le _,hp⟩
  · split
    · split
      · exact⟨hB,hB,hp⟩
      · exact⟨hc.1,hc.1,hc.2⟩
    · split
      · have:=climbF_small f B m (halfN n) wh (popC p ok).2.1 (popC p ok).2.2 hB hc.2;exact⟨this.1,by rw[nodeH_size];decide,this.2.2⟩
      · have:=climbF_small f B (m - halfN n) (n - halfN n) false (popC p ok).2.1 (popC p ok).2.2 hB hc.2;exact⟨by rw[nodeH_size];decide,by rw[nodeH_size];decide,this.2.2⟩
def RetCl(B R K P C:Nat)(bf:ByteArray)(A:Option Addr)(nn:Nat)(r:(ByteArray×ByteArray)×List ByteArray×Bool)(w:World)(e:Ending)(w':World):Prop:=
 ∃ n' c',e=.returned (.tuple #[.string r.1.1,.string r.1.2])∧XS w' B R K P C bf A n' c' r.2.1 r.2.2∧n'≤nn∧Oth2 R K w w'
theorem mx_climb(B R K P C:Nat)(bf:ByteArray)(hbf:bf.size≤100)(hd:Dis5 B R K P C):∀(f m n:Nat) (wh:Bool) (A:Option Addr) (nn c:Nat) (p:List ByteArray) (ok:Bool) (w:World),XS w B R K P C bf A nn c p ok→nn≤4096→(∀ x∈p,x.size≤100)→1≤m→m≤n→n≤f→n≤1000000 →
 Calls Tryz.prog 61 #[.int .i64 m,.int .i64 n,.bool wh,.pointer (some ⟨K,0,none⟩),.pointer (some ⟨B,0,none⟩),.pointer (some ⟨P,0,none⟩),.pointer (some ⟨C,0,none⟩)] w (RetCl B R K P C bf A nn (climbF f bf m n wh p ok) w):=by
 intro f
 induction f with
 | zero=>intro m n wh A nn c p ok w hx hnn hsp h1 h2 h3 h4;omega
 | succ f ih =>
  intro m n wh A nn c p ok w hx hnn hsp h1 h2 h3 h4;have HX:=Hq hx;have HBF:=Hq hbf;have HSP:=Hq hsp
  cases ok with
  | false =>
   have HR:=Hq (climbF_no (f+1) bf m n wh p);clear ih hx hbf hsp;have k0:=one_cell HX.out.k;have b0:=one_cell HX.out.b;have f0:=one_cell HX.out.f;have g0:=one_cell HX.out.g;go_enter Tryz.func61,Tryz.ntmps61;go_wp2;go_ret2;rw[HR.out];exact⟨nn,c,rfl,HX.out,Nat.le_refl _,Oth2.refl _ _ _⟩
  | true =>
   have hcl:=climbF_succ f bf m n wh p true;rw[if_neg (show ¬ (true=false)from by decide)]at hcl;by_cases hm:m=n
   · rw[if_pos hm]at hcl;have hmi:((m:Int)==n)=true:=by rw[hm];exact beq_self_eq_true _
     cases wh with
     | true =>
      rw[if_pos rfl]at hcl;have HR:=Hq hcl;clear ih hx hbf hsp hcl;have k0:=one_cell HX.out.k;have b0:=one_cell HX.out.b;have f0:=one_cell HX.out.f;have g0:=one_cell HX.out.g;subst hm;go_enter Tryz.func61,Tryz.ntmps61;go_wp2;go_ret2;rw[HR.out];exact⟨nn,c,rfl,HX.out,Nat.le_refl _,Oth2.refl _ _ _⟩
     | false =>
      rw[if_neg (show ¬ (false=true)from by decide)]at hcl;have HR:=Hq hcl;obtain⟨⟨pa,pb,pc⟩,hpc⟩:∃ r,popC p true=r:=⟨_,rfl⟩;have HPC:=Hq hpc;clear ih hx hbf hsp hcl hpc;subst hm;go_enter Tryz.func61,Tryz.ntmps61;have k0:=one_cell HX.out.k;have b0:=one_cell HX.out.b;have f0:=one_cell HX.out.f;have g0:=one_cell HX.out.g;go_wp2_with fail;refine(mx_pop B R K P C bf A nn c p true w HX.out hd hnn).mono ?_;rintro e w1 ⟨n1,c1,rfl,hx1,hn1,ho1⟩;have HX1:=Hq hx1;have HO1:=Hq ho1;rw[HPC.out]at HX1⊢;clear hx1 ho1 k0 b0 f0 g0;go_wp2;go_ret2;rw[HR.out,HPC.out];exact⟨n1,c1,rfl,HX1.out,hn1,HO1.out⟩
   · rw[if_neg hm]at hcl;have hmi:((m:Int)==n)=false:=by rw[beq_eq_false_iff_ne];omega
     have hn2:2≤n:=by omega
     have k1:=halfN_pos n;have k2:=halfN_lt hn2;have HH:=Hq (m_half n hn2 h4);have hsm:=popC_small true hsp;obtain⟨k,hk⟩:∃ k,halfN n=k:=⟨_,rfl⟩;obtain⟨⟨pa,pb,pc⟩,hpc⟩:∃ r,popC p true=r:=⟨_,rfl⟩;have HPC:=Hq hpc;rw[hk]at hcl HH k1 k2;rw[hpc]at hcl hsm;simp only[]at hcl hsm;by_cases hmk:m≤k
     · rw[if_pos hmk]at hcl;have hci:((m:Int)≤k):=by omega
       have hcs:=climbF_small f bf m k wh pb pc hbf hsm.2;have HI:=Hq (fun n' c' w (h:XS w B R K P C bf A n' c' pb pc) (hn':n'≤4096)=>ih m k wh A n' c' pb pc w h hn' hsm.2 h1 hmk (by omega) (by omega));obtain⟨⟨⟨ra,rb⟩,rl,ro⟩,hr⟩:∃ r,climbF f bf m k wh pb pc=r:=⟨_,rfl⟩;rw[hr]at hcl hcs HI;simp only[]at hcl hcs;have HN:=Hq (m_node rb pa (by omega) (by have:=hsm.1;omega));obtain⟨nd,hnd⟩:∃ z,nodeH rb pa=z:=⟨_,rfl⟩;rw[hnd]at HN hcl;have HR:=Hq hcl;clear ih hx hbf hsp hcl hpc hr hcs hsm hnd hk hm;go_enter Tryz.func61,Tryz.ntmps61;have k0:=one_cell HX.out.k;have b0:=one_cell HX.out.b;have f0:=one_cell HX.out.f;have g0:=one_cell HX.out.g;go_wp2_with fail;refine(mx_pop B R K P C bf A nn c p true w HX.out hd hnn).mono ?_;rintro e w1 ⟨n1,c1,rfl,hx1,hn1,ho1⟩;have HX1:=Hq hx1;have HO1:=Hq ho1;rw[HPC.out]at HX1⊢;clear hx1 ho1 k0 b0 f0 g0;go_wp2_with fail;refine(HH.out _).mono ?_;rintro e w2 ⟨rfl,rfl⟩;have k0:=one_cell HX1.out.k;have b0:=one_cell HX1.out.b;have f0:=one_cell HX1.out.f;have g0:=one_cell HX1.out.g;have HI1:=Hq (HI.out n1 c1 w1 HX1.out (by omega));go_wp2_with fail;refine HI1.out.mono ?_;rintro e w3 ⟨n3,c3,rfl,hx3,hn3,ho3⟩;have HX3:=Hq hx3;have HO3:=Hq (HO1.out.trans ho3);clear hx3 ho3 k0 b0 f0 g0;go_wp2_with fail;refine(HN.out _).mono ?_;rintro e w4 ⟨rfl,hb4⟩;have HX4:=Hq (HX3.out.next hb4);have HO4:=Hq (HO3.out.trans (Oth2.of_below hb4));clear hb4;go_wp2;go_ret2;rw[HR.out];exact⟨n3,c3,rfl,HX4.out,by omega,HO4.out⟩
     · rw[if_neg hmk]at hcl;have hci:¬ ((m:Int)≤k):=by omega
       have hcs:=climbF_small f bf (m - k) (n - k) false pb pc hbf hsm.2;have HI:=Hq (fun n' c' w (h:XS w B R K P C bf A n' c' pb pc) (hn':n'≤4096)=>show Calls Tryz.prog 61 #[.int .i64 ((m:Int) - k),.int .i64 ((n:Int) - k),.bool false,.pointer (some ⟨K,0,none⟩),.pointer (some ⟨B,0,none⟩),.pointer (some ⟨P,0,none⟩),.pointer (some ⟨C,0,none⟩)] w (RetCl B R K P C bf A n' (climbF f bf (m - k) (n - k) false pb pc) w)from by
        rw[show (m:Int) - k=((m - k:Nat):Int)from by omega,show (n:Int) - k=((n - k:Nat):Int)from by omega]
        exact ih (m - k) (n - k) false A n' c' pb pc w h hn' hsm.2 (by omega) (by omega) (by omega) (by omega))
       obtain⟨⟨⟨ra,rb⟩,rl,ro⟩,hr⟩:∃ r,climbF f bf (m - k) (n - k) false pb pc=r:=⟨_,rfl⟩;rw[hr]at hcl hcs HI;simp only[]at hcl hcs;have HN1:=Hq (m_node pa ra (by have:=hsm.1;omega) (by omega));have HN2:=Hq (m_node pa rb (by have:=hsm.1;omega) (by omega));obtain⟨nd1,hnd1⟩:∃ z,nodeH pa ra=z:=⟨_,rfl⟩;obtain⟨nd2,hnd2⟩:∃ z,nodeH pa rb=z:=⟨_,rfl⟩;rw[hnd1]at HN1 hcl;rw[hnd2]at HN2 hcl;have HR:=Hq hcl;clear ih hx hbf hsp hcl hpc hr hcs hsm hnd1 hnd2 hk hm;go_enter Tryz.func61,Tryz.ntmps61;have k0:=one_cell HX.out.k;have b0:=one_cell HX.out.b;have f0:=one_cell HX.out.f;have g0:=one_cell HX.out.g;go_wp2_with fail;refine(mx_pop B R K P C bf A nn c p true w HX.out hd hnn).mono ?_;rintro e w1 ⟨n1,c1,rfl,hx1,hn1,ho1⟩;have HX1:=Hq hx1;have HO1:=Hq ho1;rw[HPC.out]at HX1⊢;clear hx1 ho1 k0 b0 f0 g0;go_wp2_with fail;refine(HH.out _).mono ?_;rintro e w2 ⟨rfl,rfl⟩;have k0:=one_cell HX1.out.k;have b0:=one_cell HX1.out.b;have f0:=one_cell HX1.out.f;have g0:=one_cell HX1.out.g;have HI1:=Hq (HI.out n1 c1 w1 HX1.out (by omega));go_wp2_with fail;refine HI1.out.mono ?_;rintro e w3 ⟨n3,c3,rfl,hx3,hn3,ho3⟩;have HX3:=Hq hx3;have HO3:=Hq (HO1.out.trans ho3);clear hx3 ho3 k0 b0 f0 g0;go_wp2_with fail;refine(HN1.out _).mono ?_;rintro e w4 ⟨rfl,hb4⟩;have HX4:=Hq (HX3.out.next hb4);have HO4:=Hq (HO3.out.trans (Oth2.of_below hb4));clear hb4;go_wp2_with fail;refine(HN2.out _).mono ?_;rintro e w5 ⟨rfl,hb5⟩;have HX5:=Hq (HX4.out.next hb5);have HO5:=Hq (HO4.out.trans (Oth2.of_below hb5));clear hb5;go_wp2;go_ret2;rw[HR.out];exact⟨n3,c3,rfl,HX5.out,by omega,HO5.out⟩
set_option maxRecDepth 100000
set_option maxHeartbeats 8000000
theorem toList_injM{a b:ByteArray}(h:a.toList=b.toList):a=b:=by
 rw[ByteArray.toList_eq,ByteArray.toList_eq]at h;exact ByteArray.ext (Array.toList_inj.1 h)
theorem tl_beq(a b:ByteArray):(a.toList==b.toList)=decide (a=b):=by
 by_cases h:a=b
 · subst h;simp
 · rw[decide_eq_false h,beq_eq_false_iff_ne];exact fun e=>h (toList_injM e)
theorem m_Extends(bf af:ByteArray)(m n:Int)(p:List ByteArray)(A:Option Addr)(nn c:Nat)(w:World)(hs:SlN w A nn c p)(hbf:bf.size≤100)(hnn:nn≤4096)(hsp:∀ x∈p,x.size≤100)(hn:n≤100000)(hm0:¬ m<0)(hmn:¬ n<m)(hz:¬ m=0)(he:¬ m=n):Calls Tryz.prog 33 #[.string bf,.int .i64 m,.string af,.int .i64 n,.slice A nn c] w (Ret (.bool (extB bf m af n p)) w):=by
 have HLEN:=Hq hs.1;have hcap:=hs.2.1;have hcap2:=hs.2.2.1;have HBX:=Hq (heap_alloc_new w (.cells #[.string bf] 9));have HB0:=Hq ((Below.refl w.heap.size w).alloc nlr (.cells #[.string bf] 9));have HCL:=Hq (cl_strs p A nn c (w.alloc (.cells #[.string bf] 9)) (hs.kept HB0.out nlr) (by omega));obtain⟨a,rfl⟩:∃ a:Nat,m=a:=⟨m.toNat,by omega⟩;obtain⟨b,rfl⟩:∃ b:Nat,n=b:=⟨n.toNat,by omega⟩;have hmm:((a:Int)==b)=false:=by rw[beq_eq_false_iff_ne];exact he
 have hzz:((a:Int)==0)=false:=by rw[beq_eq_false_iff_ne];exact hz
 clear hs;go_enter Tryz.func33,Tryz.ntmps33;go_wp2_with fail;refine HCL.out.mono ?_;rintro e w1 ⟨A1,c1,rfl,hs1,hf1,hb1⟩;have HS1:=Hq hs1;have HF1:=Hq hf1;have HB1:=Hq hb1;clear hs1 hf1 hb1;go_upto_region 9 with(fail)
 obtain⟨R,hR⟩:∃ R,w1.heap.size=R:=⟨_,rfl⟩;obtain⟨V2,hV2⟩:∃ W,(w1.alloc (.cells #[.slice A1 nn c1] 41)).alloc (.cells #[.bool true] 4)=W:=⟨_,rfl⟩;have hs2:V2.heap.size=R+1+1:=by rw[←hV2,←hR];simp
 have hr2:V2.heap[R]? =some (.cells #[.slice A1 nn c1] 41 (0,0)):=(by rw[←hV2,←hR];exact(((blr).alloc nlr (.cells #[.bool true] 4)).block _ (by simp)).trans (heap_alloc_new _ _));have hk2:V2.heap[R+1]? =some (.cells #[.bool true] 4 (0,0)):=(by rw[←hV2,←hR];have:=heap_alloc_new (w1.alloc (.cells #[.slice A1 nn c1] 41)) (.cells #[.bool true] 4);rw[World.size_alloc]at this;exact this);have hb2:Below w1.heap.size w1 V2:=by rw[←hV2];exact((blr).alloc nlr _).alloc (by simp) _
 rw[hV2];clear hV2;rw[hR];obtain⟨F1,hF1⟩:∃ v,Value.func (.func 60) #[] #[.pointer (some ⟨R,0,none⟩),.pointer (some ⟨R+1,0,none⟩)]=v:=⟨_,rfl⟩;obtain⟨F2,hF2⟩:∃ v,Value.func (.func 61) #[] #[.pointer (some ⟨R+1,0,none⟩),.pointer (some ⟨w.heap.size,0,none⟩),.pointer (some ⟨R+1+1,0,none⟩),.pointer (some ⟨R+1+1+1,0,none⟩)]=v:=⟨_,rfl⟩;have h1F:F1.oneCell'=true:=by rw[←hF1];rfl
 have h2F:F2.oneCell'=true:=by rw[←hF2];rfl
 have HF1:=Hq hF1;have HF2:=Hq hF2;clear hF1 hF2;have hn3:(V2.alloc (.cells #[.nilFunc] 116)).heap[R+1+1]? =some (.cells #[.nilFunc] 116 (0,0)):=by rw[←hs2];exact heap_alloc_new _ _
 refine wp_region_lit ?_;iterate 6 go_step
 try rw[HF1.out]
 refine wpList_store_oneTo rfl 116 _ _ rfl rfl (R+1+1) F1 rfl rfl h1F 116 .nilFunc hn3 (by kernel_rfl) ?_;have hf3:((V2.alloc (.cells #[.nilFunc] 116)).setRow (R+1+1) #[F1]).heap[R+1+1]? =some (.cells #[F1] 116 (0,0)):=setRow_heap _ _ _ _ _ _ hn3;have hb3:Below V2.heap.size V2 ((V2.alloc (.cells #[.nilFunc] 116)).setRow (R+1+1) #[F1]):=by
  have h:=(Below.refl V2.heap.size V2).alloc nlr (.cells #[.nilFunc] 116);exact⟨h.os,h.tape,h.output,by rw[size_setRow];exact h.size,fun k hk=>(setRow_other _ _ _ _ (by omega)).trans (h.block k hk)⟩
 have hs3:((V2.alloc (.cells #[.nilFunc] 116)).setRow (R+1+1) #[F1]).heap.size=R+1+1+1:=by rw[size_setRow,World.size_alloc,hs2]
 obtain⟨V3,hV3⟩:∃ W,(V2.alloc (.cells #[.nilFunc] 116)).setRow (R+1+1) #[F1]=W:=⟨_,rfl⟩;rw[hV3]at hf3 hb3 hs3⊢;clear hV3 hn3;go_upto_region 11 with(fail)
 try rw[hs3]
 have hn4:(V3.alloc (.cells #[.nilFunc] 117)).heap[R+1+1+1]? =some (.cells #[.nilFunc] 117 (0,0)):=by rw[←hs3];exact heap_alloc_new _ _
 refine wp_region_lit ?_;iterate 3 go_step
 try rw[HF2.out]
 refine wpList_store_oneTo rfl 117 _ _ rfl rfl (R+1+1+1) F2 rfl rfl h2F 117 .nilFunc hn4 (by kernel_rfl) ?_;have hg4:((V3.alloc (.cells #[.nilFunc] 117)).setRow (R+1+1+1) #[F2]).heap[R+1+1+1]? =some (.cells #[F2] 117 (0,0)):=setRow_heap _ _ _ _ _ _ hn4;have hb4:Below V3.heap.size V3 ((V3.alloc (.cells #[.nilFunc] 117)).setRow (R+1+1+1) #[F2]):=by
  have h:=(Below.refl V3.heap.size V3).alloc nlr (.cells #[.nilFunc] 117);exact⟨h.os,h.tape,h.output,by rw[size_setRow];exact h.size,fun k hk=>(setRow_other _ _ _ _ (by omega)).trans (h.block k hk)⟩
 obtain⟨V4,hV4⟩:∃ W,(V3.alloc (.cells #[.nilFunc] 117)).setRow (R+1+1+1) #[F2]=W:=⟨_,rfl⟩;rw[hV4]at hg4 hb4⊢;clear hV4 hn4;have hb24:Below V2.heap.size V2 V4:=hb3.trans (hb4.mono hb3.size);have hb14:Below w1.heap.size w1 V4:=hb2.trans (hb24.mono hb2.size);have hwR:w.heap.size<R:=by rw[←hR];have:=HB1.out.size;rw[World.size_alloc]at this;omega
 have HBW:=Hq (show Below w.heap.size w V4 from HB0.out.trans ((HB1.out.trans (hb14.mono HB1.out.size)).mono (by simp)));have hx4:XS V4 w.heap.size R (R+1) (R+1+1) (R+1+1+1) bf A1 nn c1 p true:=by
  refine⟨?_,(hb24.block _ (by omega)).trans hr2,(hb24.block _ (by omega)).trans hk2,?_,?_,HS1.out.kept hb14 nlr,fun h0 q o e=>?_⟩
  · have h1:w1.heap[w.heap.size]? =some (.cells #[.string bf] 9 (0,0)):=(HB1.out.block _ (by simp)).trans HBX.out;exact(hb14.block _ (by omega)).trans h1
  · rw[HF1.out];exact(hb4.block _ (by omega)).trans hf3
  · rw[HF2.out];exact hg4
  · have hs1:=HS1.out;subst e;obtain⟨x,hx⟩:∃ x,p[0]? =some x:=⟨_,List.getElem?_eq_getElem (by rw[HLEN.out];exact h0)⟩;have:=World.block_lt_of_cell? _ _ (hs1.get? 0 hx);simp only at this;omega
 have HX4:=Hq hx4;have HDS:=Hq (show Dis5 w.heap.size R (R+1) (R+1+1) (R+1+1+1)from⟨by omega,by omega,by omega,by omega,by omega,by omega,by omega⟩);have HCB:=Hq (mx_climb w.heap.size R (R+1) (R+1+1) (R+1+1+1) bf hbf HDS.out b a b true A1 nn c1 p true V4 hx4 hnn hsp (by omega) (by omega) nlr (by omega));have hcr:=climb_roots b bf a b true p (by omega) (by omega) nlr;have HEX:=Hq (show extB bf a af b p=((rootsF b bf a b true p).2.2&&decide ((rootsF b bf a b true p).1=bf)&&decide ((rootsF b bf a b true p).2.1=af))from by
  unfold extB;rw[if_neg (by omega),if_neg hz,if_neg he]
  rfl)
 obtain⟨⟨⟨xa,xb⟩,xl,xo⟩,hcl⟩:∃ r,climbF b bf a b true p true=r:=⟨_,rfl⟩;rw[hcl]at hcr HCB;obtain⟨⟨ya,yb,yo⟩,hrf⟩:∃ r,rootsF b bf a b true p=r:=⟨_,rfl⟩;rw[hrf]at hcr HEX;simp only[]at hcr HEX;have HCR:=Hq hcr;clear hcr hcl hrf hx4 hb4 hg4 hf3 hb3 hs3 hb2 hr2 hk2 hs2 h1F h2F hb24 hb14 HF1 HF2;have g0:=one_cell HX4.out.g;go_wp2_with fail;refine HCB.out.mono ?_;rintro e w5 ⟨n5,c5,rfl,hx5,hn5,ho5⟩;dsimp only at hx5;have HX5:=Hq hx5;have HB5:=Hq (HBW.out.trans (ho5.below (by omega) (by omega) HBW.out.size));have HL5:=Hq hx5.s.1;have hc5:=hx5.s.2.1;have hc6:=hx5.s.2.2.1;clear hx5 ho5 g0;have k0:=one_cell HX5.out.k;have b0:=one_cell HX5.out.b;have r0:=one_cell HX5.out.r;have hq1:=tl_beq xa bf;have hq2:=tl_beq xb af;obtain⟨q1,hd1⟩:∃ q,decide (xa=bf)=q:=⟨_,rfl⟩;obtain⟨q2,hd2⟩:∃ q,decide (xb=af)=q:=⟨_,rfl⟩;rw[hd1]at hq1;rw[hd2]at hq2;have HD1:=Hq hd1;have HD2:=Hq hd2;clear hd1 hd2
 cases xo with
 | false =>
  have HR:=Hq (show extB bf a af b p=false from by rw[HEX.out,←HCR.out.1];rfl);go_wp2;go_ret;exact⟨by rw[HR.out];rfl,HB5.out⟩
 | true =>
  rcases Nat.eq_zero_or_pos n5 with h5 | h5
  · have hxl:xl=[]:=List.length_eq_zero_iff.1 (by rw[HL5.out];exact h5);have hyo:yo=true:=by rw[←HCR.out.1,hxl];rfl
    have hv:=HCR.out.2 hyo;simp only[Prod.mk.injEq]at hv;have HR:=Hq (show extB bf a af b p=(q1&&q2)from by rw[HEX.out,hyo,←hv.1,←hv.2,HD1.out,HD2.out,Bool.true_and]);subst h5;clear hv hxl hyo
    cases q1 with
    | false =>
     go_wp2;go_ret;exact⟨by rw[HR.out];rfl,HB5.out⟩
    | true =>
     go_wp2;go_ret;exact⟨by rw[HR.out];rfl,HB5.out⟩
  · have hyo:yo=false:=by
     rw[←HCR.out.1]
     cases xl with
     | nil=>have:=HL5.out;simp at this;omega
     | cons x t=>rfl
    have HR:=Hq (show extB bf a af b p=false from by rw[HEX.out,hyo];rfl);have h50:((n5:Int)==0)=false:=by rw[beq_eq_false_iff_ne];omega
    clear hyo;go_wp2;go_ret;exact⟨by rw[HR.out];rfl,HB5.out⟩
set_option maxRecDepth 100000
set_option maxHeartbeats 4000000
theorem extB_out{bf af:ByteArray}{m n:Int}{p:List ByteArray}(h:m<0∨n<m):extB bf m af n p=false:=by
 unfold extB;rw[if_pos h]
theorem m_ExtendsN(bf af:ByteArray)(m n:Int)(p:List ByteArray)(A:Option Addr)(nn c:Nat)(w:World)(hs:SlN w A nn c p)(h:m<0∨n<m):Calls Tryz.prog 33 #[.string bf,.int .i64 m,.string af,.int .i64 n,.slice A nn c] w (Ret (.bool (extB bf m af n p)) w):=by
 rw[extB_out h];clear hs;rcases h with h | h
 · go_enter Tryz.func33,Tryz.ntmps33;go_wp2;go_ret;exact⟨rfl,((blr).alloc nlr _)⟩
 · have hm:=Classical.em (m<0);rcases hm with hm | hm
   · go_enter Tryz.func33,Tryz.ntmps33;go_wp2;go_ret;exact⟨rfl,((blr).alloc nlr _)⟩
   · go_enter Tryz.func33,Tryz.ntmps33;go_wp2;go_ret;exact⟨rfl,((blr).alloc nlr _)⟩
theorem nil_iff{p:List ByteArray}{nn:Nat}(h:p.length=nn):p=[]↔nn=0:=by rw[←List.length_eq_zero_iff,h]
theorem m_ExtendsE(bf af:ByteArray)(m:Int)(p:List ByteArray)(A:Option Addr)(nn c:Nat)(w:World)(hs:SlN w A nn c p)(hm0:¬ m<0)(hz:¬ m=0):Calls Tryz.prog 33 #[.string bf,.int .i64 m,.string af,.int .i64 m,.slice A nn c] w (Ret (.bool (extB bf m af m p)) w):=by
 have HBX:=Hq (heap_alloc_new w (.cells #[.string bf] 9));have c0:=one_cell HBX.out;have HR:=Hq (show extB bf m af m p=((nn==0)&&decide (bf=af))from by
  unfold extB;rw[if_neg (by omega),if_neg hz,if_pos rfl];have:=nil_iff hs.1;by_cases hn:nn=0
  · rw[this.2 hn,hn];simp
  · have hp:¬ p=[]:=fun e=>hn (this.1 e);have hn':(nn==0)=false:=by rw[beq_eq_false_iff_ne];exact hn
    rw[hn'];simp[hp])
 have hmn:¬ m<m:=by omega
 have hq:=tl_beq bf af;have hzz:(m==0)=false:=by rw[beq_eq_false_iff_ne];exact hz
 obtain⟨q,hd⟩:∃ q,decide (bf=af)=q:=⟨_,rfl⟩;rw[hd]at hq HR;have HB:=Hq ((Below.refl w.heap.size w).alloc nlr (.cells #[.string bf] 9));rcases Nat.eq_zero_or_pos nn with h0 | h0
 · subst h0;clear hs hd
   cases q with
   | false =>
    go_enter Tryz.func33,Tryz.ntmps33;go_wp2;go_ret;exact⟨by rw[HR.out];rfl,HB.out⟩
   | true =>
    go_enter Tryz.func33,Tryz.ntmps33;go_wp2;go_ret;exact⟨by rw[HR.out];rfl,HB.out⟩
 · have h50:((nn:Int)==0)=false:=by rw[beq_eq_false_iff_ne];omega
   have hn':(nn==0)=false:=by rw[beq_eq_false_iff_ne];omega
   rw[hn']at HR;clear hs hd;go_enter Tryz.func33,Tryz.ntmps33;go_wp2;go_ret;exact⟨by rw[HR.out];rfl,HB.out⟩
theorem m_ExtendsZ(bf af:ByteArray)(n:Int)(p:List ByteArray)(A:Option Addr)(nn c:Nat)(w:World)(hs:SlN w A nn c p)(hn:¬ n<0):Calls Tryz.prog 33 #[.string bf,.int .i64 0,.string af,.int .i64 n,.slice A nn c] w (Ret (.bool (extB bf 0 af n p)) w):=by
 have HBX:=Hq (heap_alloc_new w (.cells #[.string bf] 9));have c0:=one_cell HBX.out;have HR:=Hq (show extB bf 0 af n p=((nn==0)&&decide (bf=rootL []))from by
  unfold extB;rw[if_neg (by omega),if_pos rfl,rootL_nil];have:=nil_iff hs.1;by_cases hn:nn=0
  · rw[this.2 hn,hn];simp
  · have hp:¬ p=[]:=fun e=>hn (this.1 e);have hn':(nn==0)=false:=by rw[beq_eq_false_iff_ne];exact hn
    rw[hn'];simp[hp])
 have HM:=Hq (fun W=>m_Root 0 [] none 0 0 W nlr (by decide) (by simp) (SlN.nil _ 0 (by decide) none));obtain⟨r,hr⟩:∃ r,rootL []=r:=⟨_,rfl⟩;rw[hr]at HM HR;have hq:=tl_beq bf r;obtain⟨q,hd⟩:∃ q,decide (bf=r)=q:=⟨_,rfl⟩;rw[hd]at hq HR;have HB:=Hq ((Below.refl w.heap.size w).alloc nlr (.cells #[.string bf] 9)).drew;obtain⟨wd,hwd⟩:∃ W,(w.alloc (.cells #[.string bf] 9)).drew=W:=⟨_,rfl⟩;have c0:wd.cell? ⟨w.heap.size,0,none⟩=some (.string bf):=by rw[←hwd];exact c0
 rw[hwd]at HB;have hn0:¬ n<0:=hn;rcases Nat.eq_zero_or_pos nn with h0 | h0
 · subst h0;clear hs hd hr;go_enter Tryz.func33,Tryz.ntmps33;go_wp2;refine wp_region_K 9 (Below (wd).heap.size (wd)) (by kernel_rfl) ?_;intro hD;rw[hwd];refine rP 0 28 8 rfl hD blr ?_;clear hD;intro hD;refine rP 1 29 7 rfl hD blr ?_;clear hD;intro hD;refine rP 2 30 6 rfl hD blr ?_;clear hD;intro hD;refine rP 3 31 5 rfl hD blr ?_;clear hD;intro hD;refine rT 4 32 4 rfl hD blr (by intro w' hS';have e0:=kC hS' c0;go_simp;with_reducible rfl) ?_;clear hD;intro hD;simp only[Act.put,sqA,sqB,sqC];refine rO 5 3 rfl hD ?_;clear hD;intro K5 hK5;go_wp2_with fail;refine(HM.out _).mono ?_;rintro ev w3 ⟨rfl,hb⟩;have HB5:=Hq hb;clear hb;go_wp2;refine hK5 _ _ (by exact HB5.out) ?_;clear hK5;intro hS_4_5 hD;refine rP 6 34 2 rfl hD hS_4_5 ?_;clear hD;intro hD;refine rP 7 35 1 rfl hD hS_4_5 ?_;clear hD;intro hD;simp only[Act.put,sqA,sqB,sqC];refine rO 8 0 rfl hD ?_;clear hD;intro K8 hK8;go_wp2;refine hK8 _ _ (by exact hS_4_5) ?_;clear hK8;intro hS_4_8 hD;refine wpD ?_;have HL:=Hq hS_4_8;clear hD;go_wp2;go_ret;exact⟨by rw[HR.out];rfl,HB.out.trans (HL.out.mono HB.out.size)⟩
 · have h50:((nn:Int)==0)=false:=by rw[beq_eq_false_iff_ne];omega
   have hn':(nn==0)=false:=by rw[beq_eq_false_iff_ne];omega
   rw[hn']at HR;clear hs hd hr HM;go_enter Tryz.func33,Tryz.ntmps33;go_wp2;refine wp_region_K 9 (Below (wd).heap.size (wd)) (by kernel_rfl) ?_;intro hD;rw[hwd];refine rP 0 28 8 rfl hD blr ?_;clear hD;intro hD;refine rP 1 29 7 rfl hD blr ?_;clear hD;intro hD;refine rP 2 30 6 rfl hD blr ?_;clear hD;intro hD;refine rP 3 31 5 rfl hD blr ?_;clear hD;intro hD;refine rU 4 32 4 rfl hD blr ?_;clear hD;intro hD;refine rU 5 33 3 rfl hD blr ?_;clear hD;intro hD;refine rU 6 34 2 rfl hD blr ?_;clear hD;intro hD;refine rP 7 35 1 rfl hD blr ?_;clear hD;intro hD;simp only[Act.put,sqA,sqB,sqC];refine rO 8 0 rfl hD ?_;clear hD;intro K8 hK8;go_wp2;refine hK8 _ _ (by exact blr) ?_;clear hK8;intro hS_4_8 hD;refine wpD ?_;clear hD;go_wp2;go_ret;exact⟨by rw[HR.out];rfl,HB.out⟩
theorem m_ExtendsA(bf af:ByteArray)(m n:Int)(p:List ByteArray)(A:Option Addr)(nn c:Nat)(w:World)(hs:SlN w A nn c p)(hbf:bf.size≤100)(hnn:nn≤4096)(hsp:∀ x∈p,x.size≤100)(hn:n≤100000):Calls Tryz.prog 33 #[.string bf,.int .i64 m,.string af,.int .i64 n,.slice A nn c] w (Ret (.bool (extB bf m af n p)) w):=by
 by_cases h1:m<0∨n<m
 · exact m_ExtendsN bf af m n p A nn c w hs h1
 · by_cases hz:m=0
   · subst hz;exact m_ExtendsZ bf af n p A nn c w hs (by omega)
   · by_cases he:m=n
     · subst he;exact m_ExtendsE bf af m p A nn c w hs (by omega) hz
     · exact m_Extends bf af m n p A nn c w hs hbf hnn hsp hn (by omega) (by omega) hz he
set_option maxRecDepth 100000
set_option maxHeartbeats 4000000
open Go.RowKit Go.Lib
structure HdV where
 n:Int
 r:ByteArray
 a:ByteArray
 b:ByteArray
def HdV.val(h:HdV):Value:=.agg #[.int .i64 h.n,.string h.r,.string h.a,.string h.b]
def HdV.few(h:HdV):Prop:=h.r.size≤100∧h.a.size≤1000∧h.b.size≤1000
def exH(M O G Y:ByteArray)(h k:HdV)(p:List ByteArray):Int:=
 if ckH M O G Y h.n h.r h.a h.b≠0 then ckH M O G Y h.n h.r h.a h.b else if ckH M O G Y k.n k.r k.a k.b≠0 then ckH M O G Y k.n k.r k.a k.b else if extB h.r h.n k.r k.n p then 0 else 16
def SXt(w W:World)(M O G Y:ByteArray)(h k:HdV):Prop:=
 Bx4 W w.heap.size (.string M) (.string O) (.string G) (.string Y) 26∧Bx4 W (w.heap.size+1) (.int .i64 h.n) (.string h.r) (.string h.a) (.string h.b) 37∧Bx4 W (w.heap.size+1+1) (.int .i64 k.n) (.string k.r) (.string k.a) (.string k.b) 37 ∧
 W.heap[w.heap.size+1+1+1]? =some (.cells #[.int .i64 h.n,.string h.r,.string h.a,.string h.b,.int .i64 k.n,.string k.r,.string k.a,.string k.b] 37 (0,0))∧Below w.heap.size w W
theorem SXt.new(w:World)(M O G Y:ByteArray)(h k:HdV):SXt w ((((w.alloc (.cells #[.string M,.string O,.string G,.string Y] 26)).alloc (.cells #[.int .i64 h.n,.string h.r,.string h.a,.string h.b] 37)).alloc (.cells #[.int .i64 k.n,.string k.r,.string k.a,.string k.b] 37)).alloc (.cells #[.int .i64 h.n,.string h.r,.string h.a,.string h.b,.int .i64 k.n,.string k.r,.string k.a,.string k.b] 37)) M O G Y h k:=by
 obtain⟨W1,h1⟩:∃ W,w.alloc (.cells #[.string M,.string O,.string G,.string Y] 26)=W:=⟨_,rfl⟩;have s1:W1.heap.size=w.heap.size+1:=by rw[←h1];simp
 have b1:Bx4 W1 w.heap.size (.string M) (.string O) (.string G) (.string Y) 26:=by rw[←h1];exact Bx4.new w _ _ _ _ _
 have o1:Below w.heap.size w W1:=by rw[←h1];exact(blr).alloc nlr _
 rw[h1];clear h1;obtain⟨W2,h2⟩:∃ W,W1.alloc (.cells #[.int .i64 h.n,.string h.r,.string h.a,.string h.b] 37)=W:=⟨_,rfl⟩;have s2:W2.heap.size=w.heap.size+1+1:=by rw[←h2,World.size_alloc,s1]
 have b2:=Bx4.new W1 (.int .i64 h.n) (.string h.r) (.string h.a) (.string h.b) 37;have o2:=(Below.refl W1.heap.size W1).alloc nlr (.cells #[.int .i64 h.n,.string h.r,.string h.a,.string h.b] 37);rw[h2]at b2 o2⊢;clear h2;obtain⟨W3,h3⟩:∃ W,W2.alloc (.cells #[.int .i64 k.n,.string k.r,.string k.a,.string k.b] 37)=W:=⟨_,rfl⟩;have s3:W3.heap.size=w.heap.size+1+1+1:=by rw[←h3,World.size_alloc,s2]
 have b3:=Bx4.new W2 (.int .i64 k.n) (.string k.r) (.string k.a) (.string k.b) 37;have o3:=(Below.refl W2.heap.size W2).alloc nlr (.cells #[.int .i64 k.n,.string k.r,.string k.a,.string k.b] 37);rw[h3]at b3 o3⊢;clear h3;have b4:=heap_alloc_new W3 (.cells #[.int .i64 h.n,.string h.r,.string h.a,.string h.b,.int .i64 k.n,.string k.r,.string k.a,.string k.b] 37);have o4:=(Below.refl W3.heap.size W3).alloc nlr (.cells #[.int .i64 h.n,.string h.r,.string h.a,.string h.b,.int .i64 k.n,.string k.r,.string k.a,.string k.b] 37);rw[s1]at b2;rw[s2]at b3;rw[s3]at b4;exact⟨((b1.next o2).next o3).next o4,(b2.next o3).next o4,b3.next o4,b4,(o1.trans (o2.mono (by omega))).trans ((o3.trans (o4.mono (by omega))).mono (by omega))⟩
theorem SXt.next{w W W':World}{M O G Y:ByteArray}{h k:HdV}(x:SXt w W M O G Y h k)(hb:Below W.heap.size W W'):SXt w W' M O G Y h k:=
 ⟨x.1.next hb,x.2.1.next hb,x.2.2.1.next hb,(hb.block _ (block_lt x.2.2.2.1)).trans x.2.2.2.1,x.2.2.2.2.trans (hb.mono x.2.2.2.2.size)⟩
theorem SXt.arr{w W:World}{M O G Y:ByteArray}{h k:HdV}(x:SXt w W M O G Y h k) :
 (W.cell? ⟨w.heap.size+1+1+1,0,none⟩=some (.int .i64 h.n)∧W.cell? ⟨w.heap.size+1+1+1,1,none⟩=some (.string h.r)∧W.cell? ⟨w.heap.size+1+1+1,2,none⟩=some (.string h.a)∧W.cell? ⟨w.heap.size+1+1+1,3,none⟩=some (.string h.b)) ∧
 (W.cell? ⟨w.heap.size+1+1+1,4,none⟩=some (.int .i64 k.n)∧W.cell? ⟨w.heap.size+1+1+1,5,none⟩=some (.string k.r)∧W.cell? ⟨w.heap.size+1+1+1,6,none⟩=some (.string k.a)∧W.cell? ⟨w.heap.size+1+1+1,7,none⟩=some (.string k.b)):=by
 refine⟨⟨?_,?_,?_,?_⟩,?_,?_,?_,?_⟩<;>rw[Lib.cell_of_heap x.2.2.2.1]<;>rfl
theorem led_Extends(M O G Y:ByteArray)(h k:HdV)(p:List ByteArray)(A:Option Addr)(nn c:Nat)(hM:M.size≤8)(hO:O.size≤100)(hG:G.size≤1000)(hY:Y.size≤1000)(hh:h.few)(hk:k.few)(hnn:nn≤4096)(hsp:∀ x∈p,x.size≤100)(w:World)(hs:SlN w A nn c p) :
 Calls Tryz.prog 9 #[kV M O G Y,h.val,k.val,.slice A nn c] w (Ret (.int .i64 (exH M O G Y h k p)) w):=by
 have hx0:=SXt.new w M O G Y h k;have HS:=Hq hs;have HSP:=Hq hsp;have hcap:=hs.2.1;have hcap2:=hs.2.2.1;have FH:=Hq hh;have FK:=Hq hk;clear hs hsp hh hk;obtain⟨W0,hW0⟩:∃ W,((((w.alloc (.cells #[.string M,.string O,.string G,.string Y] 26)).alloc (.cells #[.int .i64 h.n,.string h.r,.string h.a,.string h.b] 37)).alloc (.cells #[.int .i64 k.n,.string k.r,.string k.a,.string k.b] 37)).alloc (.cells #[.int .i64 h.n,.string h.r,.string h.a,.string h.b,.int .i64 k.n,.string k.r,.string k.a,.string k.b] 37))=W:=⟨_,rfl⟩;have HX0:=Hq hx0;rw[hW0]at HX0;clear hx0;unfold HdV.val kV;go_enter Tryz.func9,Tryz.ntmps9;go_wp2;try rw[hW0]
 clear hW0;go_loopw [16] (fun i wr=>∃ j:Nat,j≤2∧i=.int .i64 j∧((0<j→ckH M O G Y h.n h.r h.a h.b=0)∧(1<j→ckH M O G Y k.n k.r k.a k.b=0))∧SXt w wr M O G Y h k) (fun i _=>2 - (RowKit.intOf i).toNat);case atStart=>exact⟨0,by decide,rfl,⟨fun h=>absurd h (Nat.lt_irrefl _),fun h=>absurd h (by decide)⟩,HX0.out⟩
 case round =>
  obtain⟨j,hj,rfl,hck,hx⟩:=hrel;have HX:=Hq hx;have HCK:=Hq hck;obtain⟨⟨c0,c1,c2,c3⟩,e0,e1,e2,e3⟩:=hx.arr;clear hck hx;rcases(show j=0∨j=1∨j=2 from by omega)with rfl | rfl | rfl
  · skip;have HXA:=Hq (HX.out.next ((blr).alloc nlr (.cells #[.int .i64 h.n,.string h.r,.string h.a,.string h.b] 37)));have HCH:=Hq (led_CheckHead M O G Y h.r h.a h.b h.n hM hO hG hY FH.out.2.1 FH.out.2.2 FH.out.1);have g0:=Bx4.new wr (.int .i64 h.n) (.string h.r) (.string h.a) (.string h.b) 37;have HG:=Hq g0.cells;clear g0;obtain⟨b0,b1,b2,b3⟩:=HXA.out.1.cells;obtain⟨g0,g1,g2,g3⟩:=HG.out;unfold kV at HCH;obtain⟨v,hv⟩:∃ v,ckH M O G Y h.n h.r h.a h.b=v:=⟨_,rfl⟩;have HV:=Hq hv;rw[hv]at HCH;clear hv;go_wp2_with fail;refine(HCH.out _).mono ?_;rintro ev w2 ⟨rfl,hb⟩;have HX2:=Hq (HXA.out.next hb);clear hb c0 c1 c2 c3 e0 e1 e2 e3 g0 g1 g2 g3 b0 b1 b2 b3;by_cases hv:v=0
    · have hvb:(v != 0)=false:=by rw[hv];rfl
      have HQ:=Hq (show (0<1→ckH M O G Y h.n h.r h.a h.b=0)∧(1<1→ckH M O G Y k.n k.r k.a k.b=0)from⟨fun _=>by rw[HV.out];exact hv,fun h=>absurd h (by decide)⟩);clear hv;go_wp2;exact⟨⟨1,by omega,rfl,HQ.out,HX2.out⟩,by decide⟩
    · have hvb:(v != 0)=true:=by rw[bne_iff_ne];exact hv
      have HR:=Hq (show exH M O G Y h k p=v from by unfold exH;rw[HV.out,if_pos hv]);clear hv;go_wp2;go_ret;exact⟨by rw[HR.out];rfl,HX2.out.2.2.2.2⟩
  · skip;have HXA:=Hq (HX.out.next ((blr).alloc nlr (.cells #[.int .i64 k.n,.string k.r,.string k.a,.string k.b] 37)));have HCH:=Hq (led_CheckHead M O G Y k.r k.a k.b k.n hM hO hG hY FK.out.2.1 FK.out.2.2 FK.out.1);have g0:=Bx4.new wr (.int .i64 k.n) (.string k.r) (.string k.a) (.string k.b) 37;have HG:=Hq g0.cells;clear g0;obtain⟨b0,b1,b2,b3⟩:=HXA.out.1.cells;obtain⟨g0,g1,g2,g3⟩:=HG.out;unfold kV at HCH;obtain⟨v,hv⟩:∃ v,ckH M O G Y k.n k.r k.a k.b=v:=⟨_,rfl⟩;have HV:=Hq hv;rw[hv]at HCH;clear hv;go_wp2_with fail;refine(HCH.out _).mono ?_;rintro ev w2 ⟨rfl,hb⟩;have HX2:=Hq (HXA.out.next hb);clear hb c0 c1 c2 c3 e0 e1 e2 e3 g0 g1 g2 g3 b0 b1 b2 b3;by_cases hv:v=0
    · have hvb:(v != 0)=false:=by rw[hv];rfl
      have HQ:=Hq (show (0<2→ckH M O G Y h.n h.r h.a h.b=0)∧(1<2→ckH M O G Y k.n k.r k.a k.b=0)from⟨fun _=>HCK.out.1 (by decide),fun _=>by rw[HV.out];exact hv⟩);clear hv;go_wp2;exact⟨⟨2,by omega,rfl,HQ.out,HX2.out⟩,by decide⟩
    · have hvb:(v != 0)=true:=by rw[bne_iff_ne];exact hv
      have HR:=Hq (show exH M O G Y h k p=v from by unfold exH;rw[if_neg (by rw[HCK.out.1 (by decide)];decide),HV.out,if_pos hv]);clear hv;go_wp2;go_ret;exact⟨by rw[HR.out];rfl,HX2.out.2.2.2.2⟩
  · skip;clear c0 c1 c2 c3 e0 e1 e2 e3;obtain⟨c0,c1,c2,c3⟩:=HX.out.2.1.cells;obtain⟨e0,e1,e2,e3⟩:=HX.out.2.2.1.cells;have hkn:k.n≤4096:=by
     have:=HCK.out.2 (by decide);unfold ckH at this;split at this
     · exact absurd this (by decide)
     · omega
    have HEX:=Hq (m_ExtendsA h.r k.r h.n k.n p A nn c wr (HS.out.kept HX.out.2.2.2.2 nlr) FH.out.1 hnn HSP.out (by omega));have HR:=Hq (show exH M O G Y h k p=if extB h.r h.n k.r k.n p then 0 else 16 from by unfold exH;rw[if_neg (by rw[HCK.out.1 (by decide)];decide),if_neg (by rw[HCK.out.2 (by decide)];decide)])
    cases hq:extB h.r h.n k.r k.n p with
    | false =>
     rw[hq]at HR HEX;clear hq;go_wp2_with fail;refine HEX.out.mono ?_;rintro ev w2 ⟨rfl,hb⟩;have HX2:=Hq (HX.out.next hb);clear hb c0 c1 c2 c3 e0 e1 e2 e3;go_wp2;go_ret;exact⟨by rw[HR.out];rfl,HX2.out.2.2.2.2⟩
    | true =>
     rw[hq]at HR HEX;clear hq;go_wp2_with fail;refine HEX.out.mono ?_;rintro ev w2 ⟨rfl,hb⟩;have HX2:=Hq (HX.out.next hb);clear hb c0 c1 c2 c3 e0 e1 e2 e3;go_wp2;go_ret;exact⟨by rw[HR.out];rfl,HX2.out.2.2.2.2⟩
end Go.Proofs.YtfbmbledklbfgaaGreatDoor

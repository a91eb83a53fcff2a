import Derived.Test.YtdhnkmbjogmmkaaGreatDoorQMlH
set_option linter.unusedVariables false
set_option linter.unusedSimpArgs false
namespace Go.Proofs.YtdhnkmbjogmmkaaGreatDoor
set_option maxRecDepth 100000
set_option maxHeartbeats 16000000
open Go.RowKit
def RetRm(v:Nat)(w:World)(e:Ending)(w':World):Prop:=∃ A n c h,e=.returned (.slice A n c)∧SlU w' A n c h∧n≤1000∧vW h n=v∧Below w.heap.size w w'
theorem vW_ge{f:Nat→Nat}{n:Nat}(h0:0<n)(h:0<f (n - 1)):bW ^ (n - 1)≤vW f n:=by
 obtain⟨m,rfl⟩:∃ m,n=m+1:=⟨n - 1,by omega⟩;rw[Nat.add_sub_cancel]at *;show _≤vW f m+f m * bW ^ m;have:=Nat.mul_le_mul_right (bW ^ m) h;rw[Nat.one_mul]at this;omega
theorem rem1_step{V j d r:Nat}(h:r=V / bW ^ (j+1)%d):(r * bW+dw V j)%d=V / bW ^ j%d:=by
 subst h;unfold dw;rw[Nat.pow_succ,←Nat.div_div_eq_div_mul];generalize V / bW ^ j=z;have h:=Nat.div_add_mod z bW;rw[Nat.add_mod,Nat.mod_mul_mod,←Nat.add_mod,Nat.mul_comm,h]
theorem lz32{x:Nat}(h0:0<x)(h:x<bW):∃ s:Nat,(32:Int) - (Lib.bitLen x:Int)=(s:Int)∧s≤31∧(x+1) * 2 ^ s≤bW:=by
 obtain⟨L,h1,h2,h3,h4⟩:=bitLen_spec 64 x (Nat.lt_of_lt_of_le h (by decide)) h0;have hL:L≤31:=by
  rcases Nat.lt_or_ge 31 L with e | e
  · have : 2 ^ 32≤2 ^ L:=Nat.pow_le_pow_right (by decide) e;unfold bW at h;omega
  · exact e
 refine⟨31 - L,by unfold Lib.bitLen;rw[h1];omega,by omega,?_⟩;have h5:(x+1) * 2 ^ (31 - L)≤2 ^ (L+1) * 2 ^ (31 - L):=Nat.mul_le_mul_right _ h3;rw[←Nat.pow_add,show L+1+(31 - L)=32 from by omega]at h5;exact h5
theorem shift_top{g:Nat→Nat}{m s:Nat}(hg:∀ i,i<m+1→g i<bW)(h:(g m+1) * 2 ^ s≤bW):vW g (m+1) * 2 ^ s<bW ^ (m+1):=by
 have h1:=vW_lt (f:=g) (n:=m) (fun i hi=>hg i (by omega));have h2:vW g (m+1)<(g m+1) * bW ^ m:=(by show vW g m+g m * bW ^ m<_;rw[Nat.add_mul];omega);have h3:vW g (m+1) * 2 ^ s<(g m+1) * bW ^ m * 2 ^ s:=Nat.mul_lt_mul_of_pos_right h2 (Nat.pow_pos (by decide));have h4:(g m+1) * bW ^ m * 2 ^ s≤bW * bW ^ m:=(by rw[Nat.mul_right_comm];exact Nat.mul_le_mul_right _ h);rw[Nat.pow_succ,Nat.mul_comm (bW ^ m)];omega
theorem shift_top2{g:Nat→Nat}{m s:Nat}(hg:∀ i,i<m+2→g i<bW)(h:(g (m+1)+1) * 2 ^ s≤bW):vW g (m+2) * 2 ^ s<bW ^ (m+2):=shift_top (m:=m+1) hg h
theorem shifted_low{v:Nat→Nat}{n X:Nat}(h:vW v (n+1)=X)(hX:X<bW ^ n):vW v n=X:=by
 rw[show vW v (n+1)=vW v n+v n * bW ^ n from rfl]at h;rcases Nat.eq_zero_or_pos (v n)with e | e
 · rw[e,Nat.zero_mul]at h;exact h
 · have:=Nat.mul_le_mul_right (bW ^ n) e;rw[Nat.one_mul]at this;omega
theorem ldW_start{f:Nat→Nat}{q m s G:Nat}(hf:∀ i,i<q+(m+2)→f i<bW)(hG:bW ^ (m+1)≤G):vW f (q+(m+2)) * 2 ^ s<G * 2 ^ s * bW ^ (q+1):=by
 rw[Nat.mul_right_comm];refine Nat.mul_lt_mul_of_pos_right ?_ (Nat.pow_pos (by decide));have h1:vW f (q+(m+2))<bW ^ (q+(m+2)):=vW_lt hf;have h2:=Nat.mul_le_mul_right (bW ^ (q+1)) hG;rw[←Nat.pow_add,show m+1+(q+1)=q+(m+2)from by omega]at h2;exact Nat.lt_of_lt_of_le h1 h2
theorem dw_zero{Z n:Nat}(h:Z<bW ^ n):dw Z n=0:=by unfold dw;rw[Nat.div_eq_of_lt h];rfl
theorem back_one{Z s i n:Nat}(hs:s≤31)(hZ:Z<bW ^ n)(h:s=0∨i+1=n):dw (Z / 2 ^ s) i=dw Z i / 2 ^ s:=by
 rw[dw_back hs];rcases h with h | h
 · subst h;rw[show dw Z (i+1) * 2 ^ (32 - 0)%bW=0 from Nat.mul_mod_left _ _,Nat.add_zero]
 · rw[h,dw_zero hZ,Nat.zero_mul,Nat.zero_mod,Nat.add_zero]
theorem back_all{h':Nat→Nat}{n Z s A G:Nat}(hd:∀ i,i<n→h' i=dw (Z / 2 ^ s) i)(hZ:Z<bW ^ n)(hZe:Z=A * 2 ^ s%(G * 2 ^ s)):vW h' n=A%G:=by
 rw[vW_congr hd,vW_dw,Nat.mod_eq_of_lt (Nat.lt_of_le_of_lt (Nat.div_le_self _ _) hZ),hZe,Nat.mul_mod_mul_right,Nat.mul_div_cancel _ (Nat.pow_pos (by decide))]
theorem shr_lt{x s:Nat}(hs:s≤31)(hx:x<bW):x / 2 ^ s<2 ^ (32 - s):=by
 rw[Nat.div_lt_iff_lt_mul (Nat.pow_pos (by decide)),←Nat.pow_add,show 32 - s+s=32 from by omega];exact hx
theorem shl_low(y s2:Nat)(h:s2≤32):y * 2 ^ s2%bW%2 ^ s2=0:=by
 have e:bW=2 ^ (32 - s2) * 2 ^ s2:=by rw[←Nat.pow_add,show 32 - s2+s2=32 from by omega]
 rw[e,Nat.mul_mod_mul_right];exact Nat.mul_mod_left _ _
theorem top_pos{v:Nat→Nat}{m D:Nat}(hv:∀ i,i<m+2→v i<bW)(hD:vW v (m+2)=D)(h:bW ^ (m+1)≤D):0<v (m+1):=by
 rcases Nat.eq_zero_or_pos (v (m+1))with e | e
 · have h1:vW v (m+1)<bW ^ (m+1):=vW_lt fun i hi=>hv i (by omega);rw[show vW v (m+2)=vW v (m+1)+v (m+1) * bW ^ (m+1)from rfl,e,Nat.zero_mul]at hD;omega
 · exact e
theorem mod_remainder(A1:Option Addr)(n1 c1:Nat)(f:Nat→Nat)(A2:Option Addr)(n2 c2:Nat)(g:Nat→Nat)(w:World)(h1:SlU w A1 n1 c1 f)(h2:SlU w A2 n2 c2 g)(hn1:n1≤900)(hn2:n2≤900)(hm:0<vW g n2) :
 Calls Tryz.prog 77 #[.slice A1 n1 c1,.slice A2 n2 c2] w (RetRm (vW f n1%vW g n2) w):=by
 have HT1:=Hq (fun(W:World) (h:SlU W A1 n1 c1 f)=>mod_trim A1 n1 c1 f W h);have HT2:=Hq (fun(W:World) (h:SlU W A2 n2 c2 g)=>mod_trim A2 n2 c2 g W h);have H1:=Hq h1;have H2:=Hq h2;have HMP:=Hq hm;clear h1 h2 hm;go_enter Tryz.func77,Tryz.ntmps77;go_wp2_with fail;refine(HT1.out w H1.out).mono ?_;rintro e w' ⟨a,ha,rfl,rfl,hz,hat⟩;have HVA:=Hq (show vW f n1=vW f a from vW_top ha hz);have HA:=Hq (H1.out.part ha);have HAT:=Hq hat;clear hz hat;go_wp2_with fail;refine(HT2.out _ H2.out).mono ?_;rintro e w ⟨m,hm,rfl,rfl,hz,hmt⟩;have HVM:=Hq (show vW g n2=vW g m from vW_top hm hz);have HB:=Hq (H2.out.part hm);clear hz;have hm0:0<m:=by
  rcases Nat.eq_zero_or_pos m with e | e
  · have h:=HMP.out;rw[HVM.out,e]at h;exact absurd h (Nat.lt_irrefl _)
  · exact e
 have HMT:=Hq (hmt hm0);have HGE:=Hq (vW_ge hm0 (hmt hm0));have hca:=HA.out.1;have hca2:=HA.out.2.1;have hcb:=HB.out.1;have hcb2:=HB.out.2.1;clear hmt HT1 HT2;by_cases hlt:a<m
 · have HR:=Hq (show RetRm (vW f n1%vW g n2) w (.returned (.slice A1 a c1)) w from
    ⟨A1,a,c1,f,rfl,HA.out,by omega,by
     rw[HVA.out,HVM.out,Nat.mod_eq_of_lt];have h1:vW f a<bW ^ a:=vW_lt HA.out.2.2.1;have h2:bW ^ a≤bW ^ (m - 1):=Nat.pow_le_pow_right (by decide) (by omega);have:=HGE.out
     omega,Below.refl _ _⟩)
   go_wp2;go_ret;exact HR.out
 · by_cases hm1:m=1
   · as_aux_lemma =>
     subst hm1;obtain⟨b2,o2,rfl,hy⟩:=HB.out.cell (k:=0) (by omega);have hyl:=HB.out.2.2.1 0 (by omega);have hy0:0<g 0:=HMT.out;have hVG:vW g n2=g 0:=by rw[HVM.out];show 0+g 0 * bW ^ 0=_;rw[Nat.pow_zero,Nat.mul_one,Nat.zero_add]
     obtain⟨y,hye⟩:∃ y,g 0=y:=⟨_,rfl⟩;rw[hye]at hy hyl hy0 hVG;have HVG:=Hq hVG;have HYL:=Hq hyl;rw[Nat.add_zero]at hy;clear hye hVG HMT HGE;go_wp2;go_loopw [6,7] (fun r i wr=>∃(k rn:Nat),k≤a∧r=.int .u64 rn∧i=.int .i64 ((k:Int) - 1)∧rn=vW f a / bW ^ k%y∧Below w.heap.size w wr) (fun _ i _=>(intOf i+1).toNat);case atStart=>exact⟨a,0,Nat.le_refl _,rfl,by go_num,by rw[Nat.div_eq_of_lt (vW_lt HA.out.2.2.1),Nat.zero_mod],Below.refl _ _⟩
     case round =>
      obtain⟨k,rn,hk,rfl,rfl,hrn,hbb⟩:=hrel;have HBB:=Hq hbb;have HRN:=Hq hrn;have hrl:rn<y:=by rw[hrn];exact Nat.mod_lt _ hy0
      clear hbb hrn;rcases Nat.eq_zero_or_pos k with h0 | h0
      · subst h0;rw[show ((0:Nat):Int) - 1 = -1 from rfl];unfold bW at hyl;have HRE:=Hq (show ∀ wz,wz=wr.alloc (.cells #[.int .u32 (rn:Int)] 130)→RetRm (vW f n1%vW g n2) w (.returned (.slice (some ⟨wr.heap.size,0,none⟩) 1 1)) wz from fun wz e=>by
         subst e;refine⟨_,1,1,fun _=>rn,rfl,⟨Nat.le_refl _,by omega,fun i _=>by show rn<bW;unfold bW;omega,wr.heap.size,0,fun _=>rfl,fun i hi=>?_⟩,by omega,?_,HBB.out.alloc HBB.out.size _⟩
         · obtain rfl:i=0:=by omega
           exact(Lib.cell_of_heap (heap_alloc_new _ _) 0).trans rfl
         · show 0+rn * bW ^ 0=_
           rw[HVG.out,HVA.out,HRN.out,Nat.pow_zero,Nat.div_one,Nat.mul_one,Nat.zero_add])
        clear hk;go_wp2;go_ret;exact HRE.out _ rfl
      · obtain⟨j,rfl⟩:∃ j,k=j+1:=⟨k - 1,by omega⟩;rw[show ((j+1:Nat):Int) - 1=(j:Int)from by omega];obtain⟨b,o,rfl,hx⟩:=(HA.out.kept HBB.out nlr).cell (k:=j) (by omega);have hxl:=HA.out.2.2.1 j (by omega);have HXD:=Hq (show dw (vW f a) j=f j from dw_vW HA.out.2.2.1 (by omega));obtain⟨x,hxe⟩:∃ x,f j=x:=⟨_,rfl⟩;rw[hxe]at hx hxl;have HXE:=Hq hxe;clear hxe;have hor:=u64_or_join (s:=32) (H:=rn * bW) (l:=x) (Nat.mul_mod_left _ _) hxl (by unfold bW at *;omega) (by unfold bW at *;omega);have HNX:=Hq (rem1_step (j:=j) (HRN.out));rw[HXD.out,HXE.out]at HNX;obtain⟨R,hR⟩:∃ R,rn * bW=R:=⟨_,rfl⟩;have hrs:(rn:Int) * 4294967296=(R:Int):=by rw[←hR];unfold bW;omega
        have hRl:R+x<18446744073709551616:=by unfold bW at *;omega
        rw[hR]at hor HNX;obtain⟨t,ht⟩:∃ t,R+x=t:=⟨_,rfl⟩;rw[ht]at hor HNX hRl;have hRu:R<18446744073709551616:=by omega
        have hyz:((y:Int)==0)=false:=beq_eq_false_iff_ne.2 (by omega);have hyp:(0:Int)<(y:Int):=by omega
        have hjm:(j:Int)<(a:Int):=by omega
        have hyn:¬ ((y:Int)=0):=by omega
        have hyn2:¬ (y=0):=by omega
        unfold bW at hyl hxl;have hwy:IntKind.u64.wrap (y:Int)=(y:Int):=by rw[IntKind.wrap_u64];omega
        have hwR:IntKind.u64.wrap (R:Int)=(R:Int):=by rw[IntKind.wrap_u64];omega
        have hwx:IntKind.u64.wrap (x:Int)=(x:Int):=by rw[IntKind.wrap_u64];omega
        obtain⟨r2,hr2⟩:∃ u,t%y=u:=⟨_,rfl⟩;have htm:(t:Int).tmod (y:Int)=(r2:Int):=by rw[Int.tmod_eq_emod_of_nonneg (by omega),←hr2];simp
        rw[hr2]at HNX;clear hr2;clear ht hR;go_wp2;obtain⟨wd,hwd⟩:∃ wd,wr.drew=wd:=⟨_,rfl⟩;have hbd:Below wr.heap.size wr wd:=by rw[←hwd];exact(blr).drew
        have c0:=kc hbd hx;have c1:=cell_kept (HBB.out.trans (hbd.mono HBB.out.size)) nlr hy;have HBD:=Hq (HBB.out.trans (hbd.mono HBB.out.size));clear hbd hx;refine wp_region_K 14 (Below (wd).heap.size (wd)) (by kernel_rfl) ?_;intro hD;rw[hwd];refine rP 0 44 13 rfl hD blr ?_;clear hD;intro hD;simp only[Act.put,sqA,sqB,sqC];refine rP 1 45 12 rfl hD blr ?_;clear hD;intro hD;simp only[Act.put,sqA,sqB,sqC];refine rP 2 46 11 rfl hD blr ?_;clear hD;intro hD;simp only[Act.put,sqA,sqB,sqC];refine rP 3 47 10 rfl hD blr ?_;clear hD;intro hD;simp only[Act.put,sqA,sqB,sqC];refine rP 4 48 9 rfl hD blr ?_;clear hD;intro hD;simp only[Act.put,sqA,sqB,sqC];refine rT 5 49 8 rfl hD blr (by intro w' hS';have e0:=kC hS' c0;have e1:=kC hS' c1;go_simp;with_reducible rfl) ?_;clear hD;intro hD;simp only[Act.put,sqA,sqB,sqC];refine rP 6 50 7 rfl hD blr ?_;clear hD;intro hD;simp only[Act.put,sqA,sqB,sqC];refine rP 7 51 6 rfl hD blr ?_;clear hD;intro hD;simp only[Act.put,sqA,sqB,sqC];refine rP 8 52 5 rfl hD blr ?_;clear hD;intro hD;simp only[Act.put,sqA,sqB,sqC];refine rP 9 53 4 rfl hD blr ?_;clear hD;intro hD;simp only[Act.put,sqA,sqB,sqC];refine rT 10 54 3 rfl hD blr (by intro w' hS';have e0:=kC hS' c0;have e1:=kC hS' c1;go_simp;with_reducible rfl) ?_;clear hD;intro hD;simp only[Act.put,sqA,sqB,sqC];refine rP 11 55 2 rfl hD blr ?_;clear hD;intro hD;simp only[Act.put,sqA,sqB,sqC];refine rP 12 56 1 rfl hD blr ?_;clear hD;intro hD;simp only[Act.put,sqA,sqB,sqC];refine rO 13 0 rfl hD ?_;clear hD;intro K13 hK13;go_wp2;refine hK13 _ _ (by exact blr) ?_;clear hK13;intro hS_10_13 hD;refine wpAnyK_done (by kernel_rfl) ?_ 0;clear hD c0 c1;go_wp2;exact⟨⟨j,r2,by omega,rfl,rfl,HNX.out,HBD.out⟩,by simp[intOf]⟩
   · obtain⟨mm,rfl⟩:∃ mm,m=mm+2:=⟨m - 2,by omega⟩;obtain⟨q,rfl⟩:∃ q,a=q+(mm+2):=⟨a - (mm+2),by omega⟩;obtain⟨b2,o2,rfl,hy⟩:=HB.out.cell (k:=mm+1) (by omega);have hyl:=HB.out.2.2.1 (mm+1) (by omega);have hy0:0<g (mm+1):=HMT.out;obtain⟨s,hs,hs31,hsx⟩:=lz32 hy0 hyl;have HST:=Hq (shift_top2 (g:=g) (m:=mm) (s:=s) (fun i hi=>HB.out.2.2.1 i hi) hsx);have HGE2:=Hq (show bW ^ (mm+1)≤vW g (mm+2)from HGE.out);have HLZ:=Hq (fun w=>Tryz.bits_LeadingZeros32 (g (mm+1):Int) w (by omega) (by unfold bW at hyl;omega));rw[Int.toNat_natCast,hs]at HLZ;have HSA:=Hq (fun(W:World) (h:Below w.heap.size w W)=>mod_shifted A1 (q+(mm+2)) c1 f s W (HA.out.kept h nlr) (by omega) hs31);have HSB:=Hq (fun(W:World) (h:Below w.heap.size w W)=>mod_shifted (some ⟨b2,o2,none⟩) (mm+2) c2 g s W (HB.out.kept h nlr) (by omega) hs31);obtain⟨y,hye⟩:∃ y,g (mm+1)=y:=⟨_,rfl⟩;rw[hye]at hy HLZ;have hm2i:((mm+2:Nat):Int) - 1=((mm+1:Nat):Int):=by omega
     clear hye hy0 hyl hs hsx hm1 hlt HMT;simp only[Int.natCast_add,Int.cast_ofNat_Int,Int.natCast_one]at HSA HSB hm2i;go_wp2_with fail;refine(show Calls _ _ _ _ _ from HLZ.out w).mono ?_;rintro e w ⟨rfl,rfl⟩;clear HLZ hy;go_wp2;have hs1:(0:Int)≤(mm:Int)+2:=by omega
     have hs2:(mm:Int)+2≤(mm:Int)+2+1:=by omega
     have hs3:((mm:Int)+2).toNat=mm+2:=by omega
     obtain⟨wd,hwd⟩:∃ wd,w.drew=wd:=⟨_,rfl⟩;have HWD:=Hq (show Below w.heap.size w wd from by rw[←hwd];exact(blr).drew);refine wp_region_K 10 (Below (wd).heap.size (wd)) (by kernel_rfl) ?_;intro hD;rw[hwd];refine rP 0 66 9 rfl hD blr ?_;clear hD;intro hD;simp only[Act.put,sqA,sqB,sqC];refine rP 1 67 8 rfl hD blr ?_;clear hD;intro hD;simp only[Act.put,sqA,sqB,sqC];refine rP 3 69 7 rfl hD blr ?_;clear hD;intro hD;simp only[Act.put,sqA,sqB,sqC];refine rP 4 70 6 rfl hD blr ?_;clear hD;intro hD;simp only[Act.put,sqA,sqB,sqC];refine rP 6 72 5 rfl hD blr ?_;clear hD;intro hD;simp only[Act.put,sqA,sqB,sqC];refine rO 2 4 rfl hD ?_;clear hD;intro K2 hK2;go_wp2_with fail;refine(show Calls _ _ _ _ _ from HSA.out wd HWD.out).mono ?_;rintro ev w5 ⟨u,rfl,hu,hul,huv,hb⟩;have HB2:=Hq hb;have HU:=Hq hu;have HUL:=Hq hul;have HUV:=Hq huv;clear hb hu hul huv;go_wp2;refine hK2 _ _ (by exact HB2.out) ?_;clear hK2;intro hS_13_2 hD;refine rO 5 3 rfl hD ?_;clear hD;intro K5 hK5;go_wp2_with fail;refine(show Calls _ _ _ _ _ from HSB.out w5 (HWD.out.trans (HB2.out.mono HWD.out.size))).mono ?_;rintro ev w6 ⟨v,rfl,hv,hvl,hvv,hb⟩;have HB5:=Hq hb;have HV:=Hq hv;have HVL:=Hq hvl;have HVV:=Hq hvv;clear hb hv hvl hvv;go_wp2;refine hK5 _ _ (by exact Below.trans hS_13_2 (Below.mono HB5.out (Below.size hS_13_2))) ?_;clear hK5;intro hS_13_5 hD;refine rP 7 73 2 rfl hD hS_13_5 ?_;clear hD;intro hD;simp only[Act.put,sqA,sqB,sqC];refine rO 8 1 rfl hD ?_;clear hD;intro K8 hK8;go_wp2;refine hK8 _ _ (by exact hS_13_5) ?_;clear hK8;intro hS_13_8 hD;refine rO 9 0 rfl hD ?_;clear hD;intro K9 hK9;go_wp2;refine hK9 _ _ (by exact hS_13_8) ?_;clear hK9;intro hS_13_9 hD;refine wpAnyK_done (by kernel_rfl) ?_ 0;clear hD;have HD:=Hq (shifted_low (v:=v) (n:=mm+2) HVV.out HST.out);obtain⟨D,hDe⟩:∃ D,vW v (mm+2)=D:=⟨_,rfl⟩;rw[hDe]at HD;have HDE:=Hq hDe;have HD0:=Hq (show bW ^ (mm+1)≤D from by rw[HD.out];exact Nat.le_trans HGE2.out (Nat.le_mul_of_pos_right _ (Nat.pow_pos (by decide))));have HDn:=Hq (show D<bW ^ (mm+2)from by rw[HD.out];exact HST.out);obtain⟨AV,hAV⟩:∃ A,vW f (q+(mm+2)) * 2 ^ s=A:=⟨_,rfl⟩;rw[hAV]at HUV;have HAV:=Hq hAV;have HS0:=Hq (show LwS w w6 w5.heap.size wd.heap.size (mm+2+1) (q+(mm+2)+1) v u from
      ⟨HV.out,HU.out.next HB5.out,HUL.out,(HWD.out.trans (HB2.out.mono HWD.out.size)).trans (HB5.out.mono (Nat.le_trans HWD.out.size HB2.out.size)),Nat.ne_of_gt HU.out.lt,HWD.out.size⟩)
     have HV0:=Hq (show vW u (q+(mm+2)+1)=AV%(D * bW ^ (q+1))from by
      rw[HUV.out,Nat.mod_eq_of_lt];rw[←HAV.out,HD.out]
      exact ldW_start HA.out.2.2.1 HGE2.out)
     have HVL2:=Hq (fun i (hi:i<mm+2)=>HVL.out i (by omega));clear hDe hAV hs1 hs2 hs3;obtain⟨BU,hBU⟩:∃ b,wd.heap.size=b:=⟨_,rfl⟩;obtain⟨BV,hBV⟩:∃ b,w5.heap.size=b:=⟨_,rfl⟩;rw[hBU,hBV]at HS0;rw[hBU,hBV];clear HU HV HB2 HB5 HWD HSA HSB hBU hBV;go_wp2;go_loopw [11] (fun jv wr=>∃(jj:Nat) (h:Nat→Nat),jj≤q+1∧jv=.int .i64 ((jj:Int) - 1)∧vW h (q+(mm+2)+1)=AV%(D * bW ^ jj)∧LwS w wr BV BU (mm+2+1) (q+(mm+2)+1) v h) (fun jv _=>(intOf jv+1).toNat);case atStart=>exact⟨q+1,u,Nat.le_refl _,by go_num,HV0.out,HS0.out⟩
     case round =>
      obtain⟨jj,h,hjj,rfl,hvj,hSj⟩:=hrel;have HVJ:=Hq hvj;have HSJ:=Hq hSj;clear hvj hSj;rcases Nat.eq_zero_or_pos jj with h0 | h0
      · as_aux_lemma =>
        subst h0;rw[show ((0:Nat):Int) - 1 = -1 from rfl];have hz1:vW h (q+(mm+2)+1)=AV%D:=by rw[HVJ.out,Nat.pow_zero,Nat.mul_one]
        have hD1:0<D:=Nat.lt_of_lt_of_le (bW_pos _) HD0.out;obtain⟨Z,hZ⟩:∃ Z,AV%D=Z:=⟨_,rfl⟩;rw[hZ]at hz1;have HZL:=Hq (show Z<bW ^ (mm+2)from by rw[←hZ];exact Nat.lt_trans (Nat.mod_lt _ hD1) HDn.out);have HZD:=Hq (fun i (hi:i<q+(mm+2)+1)=>vW_eq HSJ.out.lU hz1 i hi);have HZE:=Hq (show Z=vW f (q+(mm+2)) * 2 ^ s%(vW g (mm+2) * 2 ^ s)from by rw[←hZ,←HAV.out,HD.out]);have hs1:(0:Int)≤(mm:Int)+2:=by omega
        have hs2:(mm:Int)+2≤(q:Int)+((mm:Int)+2)+1:=by omega
        have hs3:((mm:Int)+2).toNat=mm+2:=by omega
        clear hZ hz1 hD1;go_wp2;clear hs1 hs2 hs3;go_loopw [252] (fun iv wx=>∃(k:Nat) (h':Nat→Nat),k≤mm+2∧iv=.int .i64 k∧RowU wx BU (q+(mm+2)+1) h'∧(∀ p,p<k→h' p=dw (Z / 2 ^ s) p)∧(∀ p,k≤p→p<q+(mm+2)+1→h' p=dw Z p)∧Below w.heap.size w wx) (fun iv _=>mm+2 - (intOf iv).toNat);case atStart=>exact⟨0,h,Nat.zero_le _,rfl,HSJ.out.rU,fun p hp=>absurd hp (Nat.not_lt_zero _),fun p _ hp=>HZD.out p hp,HSJ.out.hB⟩
        case round =>
         obtain⟨k,h',hk,rfl,hrow,hlo,hhi,hbb⟩:=hrel;have HROW:=Hq hrow;have HLO:=Hq hlo;have HHI:=Hq hhi;have HBB:=Hq hbb;clear hrow hlo hhi hbb;by_cases hlt:k<mm+2
         · have c0:=HROW.out.cell (show k<q+(mm+2)+1 by omega);have f0:=HROW.out.free k;have HH0:=Hq (HHI.out k nlr (by omega));have HH1:=Hq (HHI.out (k+1) (by omega) (by omega));have hxl:h' k<bW:=by rw[HH0.out];exact dw_lt _ _
           have hyl:h' (k+1)<bW:=by rw[HH1.out];exact dw_lt _ _
           have hx2:=shr_lt hs31 hxl;obtain⟨x,hxe⟩:∃ x,h' k=x:=⟨_,rfl⟩;rw[hxe]at c0 hxl hx2 HH0;obtain⟨x2,hx2e⟩:∃ u,x / 2 ^ s=u:=⟨_,rfl⟩;rw[hx2e]at hx2;have hx2i:(x:Int) / 2 ^ s=(x2:Int):=by rw[←hx2e];simp
           have hx2l:x2<bW:=by rw[←hx2e];exact Nat.lt_of_le_of_lt (Nat.div_le_self _ _) hxl
           have HX2:=Hq hx2e;have hki:(k:Int)<(mm:Int)+2:=by omega
           have HRS:=Hq (HROW.out.set (k:=k) x2);have HBS:=Hq (HBB.out.setCell (p:=⟨BU,k,none⟩) HSJ.out.h3 (.int .u32 (x2:Int)));obtain⟨w2,hw2⟩:∃ W,wr.setCell ⟨BU,k,none⟩ (.int .u32 (x2:Int))=W:=⟨_,rfl⟩;rw[hw2]at HRS HBS;by_cases hc:0<s∧k+1<mm+2
           · have hc1:(0:Int)<(s:Int):=by omega
             have hc2:(k:Int)+1<(mm:Int)+2:=by omega
             have c2:=HRS.out.cell (show k+1<q+(mm+2)+1 by omega);rw[upd_off h' (show ¬ k+1=k by omega)]at c2;obtain⟨y1,hy1⟩:∃ u,h' (k+1)=u:=⟨_,rfl⟩;rw[hy1]at c2 hyl HH1;obtain⟨s2,hs2⟩:∃ u,32 - s=u:=⟨_,rfl⟩;have hs2i:(32:Int) - (s:Int)=(s2:Int):=by omega
             have hs2l:s2≤32:=by omega
             rw[hs2]at hx2;obtain⟨z,hz⟩:∃ u,y1 * 2 ^ s2%bW=u:=⟨_,rfl⟩;have hzi:(y1:Int) * 2 ^ s2%4294967296=(z:Int):=by rw[←hz];unfold bW;simp
             have hor:=u32_or_join' (s:=s2) (H:=z) (l:=x2) (by rw[←hz];exact shl_low y1 s2 hs2l) hx2 (by rw[←hz];exact Nat.mod_lt _ (by decide)) hx2l;have hv:bits BinOp.or IntKind.u32 (x2:Int) ((y1:Int) * 2 ^ s2%4294967296)=((x2+z:Nat):Int):=by rw[hzi];exact hor
             have HV2:=Hq hv;have HEND:=Hq (show dw (Z / 2 ^ s) k=x2+z from by
              rw[dw_back hs31,←HH0.out,←HH1.out,hs2,hz]
              rw[HX2.out])
             have hwk:IntKind.i64.wrap (k:Int)=(k:Int):=by rw[IntKind.wrap_i64];omega
             have hwk1:IntKind.i64.wrap ((k:Int)+1)=(k:Int)+1:=by rw[IntKind.wrap_i64];omega
             have hk0:(0:Int)≤(k:Int):=by omega
             have hk1:(0:Int)≤(k:Int)+1:=by omega
             have hk2:((k:Int)+1).toNat=k+1:=by omega
             have hws2:IntKind.i64.wrap (s2:Int)=(s2:Int):=by rw[IntKind.wrap_i64];omega
             clear hxe hx2e hy1 hs2 hz hzi hor hv hx2 hs2l;unfold bW at hxl hx2l hyl;go_wp2;obtain⟨we,hwe⟩:∃ V,w2.drew=V:=⟨_,rfl⟩;have hbe:Below w2.heap.size w2 we:=by rw[←hwe];exact(blr).drew
             have HRE:=Hq (HRS.out.next hbe);have HBE:=Hq (HBS.out.trans (hbe.mono HBS.out.size));have d0:=cell_kept hbe nlr (HRS.out.cell (show k<q+(mm+2)+1 by omega));rw[upd_at]at d0;have d1:=kc hbe c2;have f1:=HRE.out.free k;clear hbe c0 c2 f0;refine wp_region_K 14 (Below (we).heap.size (we)) (by kernel_rfl) ?_;intro hD;rw[hwe];refine qPD 0 270 14 rfl hD blr ?_;clear hD;intro hD;simp only[Act.put,sqA,sqB,sqC];refine qPD 1 271 13 rfl hD blr ?_;clear hD;intro hD;simp only[Act.put,sqA,sqB,sqC];refine qPD 2 272 12 rfl hD blr ?_;clear hD;intro hD;simp only[Act.put,sqA,sqB,sqC];refine qTD 3 273 11 rfl hD blr (by intro w' hS';have e0:=kC hS' d0;have e1:=kC hS' d1;go_simp;with_reducible rfl) ?_;clear hD;intro hD;simp only[Act.put,sqA,sqB,sqC];refine qPD 4 274 10 rfl hD blr ?_;clear hD;intro hD;simp only[Act.put,sqA,sqB,sqC];refine qPD 5 275 9 rfl hD blr ?_;clear hD;intro hD;simp only[Act.put,sqA,sqB,sqC];refine qPD 6 276 8 rfl hD blr ?_;clear hD;intro hD;simp only[Act.put,sqA,sqB,sqC];refine qPD 7 277 7 rfl hD blr ?_;clear hD;intro hD;simp only[Act.put,sqA,sqB,sqC];refine qTD 8 278 6 rfl hD blr (by intro w' hS';have e0:=kC hS' d0;have e1:=kC hS' d1;go_simp;with_reducible rfl) ?_;clear hD;intro hD;simp only[Act.put,sqA,sqB,sqC];refine qPD 9 279 5 rfl hD blr ?_;clear hD;intro hD;simp only[Act.put,sqA,sqB,sqC];refine qPD 10 280 4 rfl hD blr ?_;clear hD;intro hD;simp only[Act.put,sqA,sqB,sqC];refine qPD 11 281 3 rfl hD blr ?_;clear hD;intro hD;simp only[Act.put,sqA,sqB,sqC];refine qPD 12 282 2 rfl hD blr ?_;clear hD;intro hD;simp only[Act.put,sqA,sqB,sqC];refine qPD 13 283 1 rfl hD blr ?_;clear hD;intro hD;simp only[Act.put,sqA,sqB,sqC];refine wpAnyK_oneT (i:=14) (fuel:=0) (by kernel_rfl) rfl hD (by kernel_rfl) ?_;clear hD;intro K14 hK14;go_wp2;refine hK14 _ _ ?_;clear hK14;intro hD;refine wpAnyK_done (by kernel_rfl) ?_ 0;clear hD d0 d1 f1;rw[HV2.out];have HRT:=Hq (HRE.out.set (k:=k) (x2+z));have HBT:=Hq (HBE.out.setCell (p:=⟨BU,k,none⟩) HSJ.out.h3 (.int .u32 ((x2+z:Nat):Int)));obtain⟨w3,hw3⟩:∃ W,we.setCell ⟨BU,k,none⟩ (.int .u32 ((x2+z:Nat):Int))=W:=⟨_,rfl⟩;rw[hw3]at HRT HBT⊢;clear hw3;go_wp2;refine⟨⟨k+1,_,by omega,by go_num,HRT.out,fun p hp=>?_,fun p h1 h2=>?_,HBT.out⟩,by simp[intOf];omega⟩
             · by_cases e:p=k
               · subst e;rw[upd_at];exact HEND.out.symm
               · rw[upd_off _ e,upd_off _ e];exact HLO.out p (by omega)
             · rw[upd_off _ (show ¬ p=k by omega),upd_off _ (show ¬ p=k by omega)];exact HHI.out p (by omega) h2
           · have HEND:=Hq (show dw (Z / 2 ^ s) k=x2 from by
              rw[back_one hs31 HZL.out (by omega),←HH0.out]
              exact HX2.out)
             clear hxe hx2e;unfold bW at hxl hx2l;rcases Nat.eq_zero_or_pos s with e | e
             · have hc3:¬ ((0:Int)<(s:Int)):=by omega
               have hc4:decide ((s:Int) > 0)=false:=decide_eq_false (by omega);clear e;go_wp2;refine⟨⟨k+1,_,by omega,by go_num,HRS.out,fun p hp=>?_,fun p h1 h2=>?_,HBS.out⟩,by simp[intOf];omega⟩
               · by_cases e:p=k
                 · subst e;rw[upd_at];exact HEND.out.symm
                 · rw[upd_off _ e];exact HLO.out p (by omega)
               · rw[upd_off _ (show ¬ p=k by omega)];exact HHI.out p (by omega) h2
             · have hc3:(0:Int)<(s:Int):=by omega
               have hc4:¬ ((k:Int)+1<(mm:Int)+2):=by omega
               clear e;go_wp2;refine⟨⟨k+1,_,by omega,by go_num,HRS.out,fun p hp=>?_,fun p h1 h2=>?_,HBS.out⟩,by simp[intOf];omega⟩
               · by_cases e:p=k
                 · subst e;rw[upd_at];exact HEND.out.symm
                 · rw[upd_off _ e];exact HLO.out p (by omega)
               · rw[upd_off _ (show ¬ p=k by omega)];exact HHI.out p (by omega) h2
         · obtain rfl:k=mm+2:=by omega
           have HRE:=Hq (show ∀ wz,wz=wr→RetRm (vW f n1%vW g n2) w (.returned (.slice (some ⟨BU,0,none⟩) (mm+2) (q+(mm+2)+1))) wz from fun wz e=>by
            subst e;refine⟨_,mm+2,_,h',rfl,⟨by omega,by omega,fun i hi=>by rw[HLO.out i hi];exact dw_lt _ _,BU,0,fun _=>rfl,fun i hi=>by rw[Nat.zero_add];exact HROW.out.cell (by omega)⟩,by omega,?_,HBB.out⟩;rw[HVA.out,HVM.out]
            exact back_all HLO.out HZL.out HZE.out)
           clear hlt hk;go_wp2;go_ret;exact HRE.out _ rfl
      · obtain⟨j,rfl⟩:∃ j,jj=j+1:=⟨jj - 1,by omega⟩;rw[show ((j+1:Nat):Int) - 1=(j:Int)from by omega];have HU:=Hq (fun i (hi:i<mm+3)=>HSJ.out.lU (j+i) (by omega));have HUW:=Hq (ldW_top (A:=AV) (D:=D) (n:=mm+2) (j:=j) HSJ.out.lU (by omega) (Nat.lt_of_lt_of_le (bW_pos _) HD0.out) HVJ.out);have hv1:=top_pos HVL2.out HDE.out HD0.out;have HDT:=Hq (DvT.of (u:=fun i=>h (j+i)) (v:=v) (m:=mm) HU.out HVL2.out hv1 (by rw[HDE.out];exact HUW.out));have HTT:=Hq (DvT.top (u:=fun i=>h (j+i)) (v:=v) (m:=mm) HU.out HVL2.out (by rw[HDE.out];exact HUW.out));obtain⟨UU,hUU⟩:∃ U,vW (fun i=>h (j+i)) (mm+3)=U:=⟨_,rfl⟩;rw[hUU,HDE.out]at HDT;rw[show mm+2+1=mm+3 from rfl,hUU]at HUW;have HUU:=Hq hUU;have HULJ:=Hq HSJ.out.lU;obtain⟨p0,hp0⟩:∃ p,j+(mm+2)=p:=⟨_,rfl⟩;obtain⟨p1,hp1⟩:∃ p,j+(mm+1)=p:=⟨_,rfl⟩;obtain⟨p2,hp2⟩:∃ p,j+mm=p:=⟨_,rfl⟩;have HP:=Hq (And.intro hp0 (And.intro hp1 hp2));have hp0i:(j:Int)+((mm:Int)+2)=(p0:Int):=by omega
        have hp1i:(p0:Int) - 1=(p1:Int):=by omega
        have hp2i:(p0:Int) - 2=(p2:Int):=by omega
        have hp0w:IntKind.i64.wrap (p0:Int)=(p0:Int):=by rw[IntKind.wrap_i64];omega
        have hp1w:IntKind.i64.wrap (p1:Int)=(p1:Int):=by rw[IntKind.wrap_i64];omega
        have hp2w:IntKind.i64.wrap (p2:Int)=(p2:Int):=by rw[IntKind.wrap_i64];omega
        have hp00:(0:Int)≤(p0:Int):=by omega
        have hp10:(0:Int)≤(p1:Int):=by omega
        have hp20:(0:Int)≤(p2:Int):=by omega
        have hp0b:(p0:Int)<(q:Int)+((mm:Int)+2)+1:=by omega
        have hp1b:(p1:Int)<(q:Int)+((mm:Int)+2)+1:=by omega
        have hp2b:(p2:Int)<(q:Int)+((mm:Int)+2)+1:=by omega
        have hm1i:(mm:Int)+2 - 1=(mm:Int)+1:=by omega
        have hm2i':(mm:Int)+2 - 2=(mm:Int):=by omega
        have hm1w:IntKind.i64.wrap ((mm:Int)+1)=(mm:Int)+1:=by rw[IntKind.wrap_i64];omega
        have hm0w:IntKind.i64.wrap (mm:Int)=(mm:Int):=by rw[IntKind.wrap_i64];omega
        have hm10:(0:Int)≤(mm:Int)+1:=by omega
        have hm00:(0:Int)≤(mm:Int):=by omega
        have hm1b:(mm:Int)+1<(mm:Int)+2:=by omega
        have hm0b:(mm:Int)<(mm:Int)+2:=by omega
        have hm1t:((mm:Int)+1).toNat=mm+1:=by omega
        have e0:=HDT.out.lu;have e1:=HDT.out.l1;have e2:=HDT.out.l2;have hu0:=HU.out (mm+2) (by omega);have hu1:=HU.out (mm+1) (by omega);simp only[hp0,hp1,hp2]at HDT HTT e0 hu0 hu1;obtain⟨U0,hU0⟩:∃ u,h p0=u:=⟨_,rfl⟩;obtain⟨U1,hU1⟩:∃ u,h p1=u:=⟨_,rfl⟩;obtain⟨U2,hU2⟩:∃ u,h p2=u:=⟨_,rfl⟩;obtain⟨V1,hV1⟩:∃ u,v (mm+1)=u:=⟨_,rfl⟩;obtain⟨V2,hV2⟩:∃ u,v mm=u:=⟨_,rfl⟩;obtain⟨wd,hwd⟩:∃ wd,wr.drew=wd:=⟨_,rfl⟩;have HSD:=Hq (show LwS w wd BV BU (mm+2+1) (q+(mm+2)+1) v h from by rw[←hwd];exact HSJ.out.drew);have c0:=HSD.out.rU.cell (show p0<q+(mm+2)+1 by omega);have c1:=HSD.out.rU.cell (show p1<q+(mm+2)+1 by omega);have c2:=HSD.out.rU.cell (show p2<q+(mm+2)+1 by omega);have c3:=HSD.out.rV.cell (show mm+1<mm+2+1 by omega);have c4:=HSD.out.rV.cell (show mm<mm+2+1 by omega);rw[hU0]at c0 hu0 HDT HTT;rw[hU1]at c1 hu1 HDT HTT;rw[hU2]at c2 e0 HDT;rw[hV1]at c3 e1 hv1 HDT HTT;rw[hV2]at c4 e2 HDT;have HE0:=Hq (And.intro hU0 (And.intro hU1 hU2));have HE1:=Hq (And.intro hV1 hV2);obtain⟨R0,hR0⟩:∃ u,U0 * bW=u:=⟨_,rfl⟩;have hR0i:(U0:Int) * 4294967296=(R0:Int):=by rw[←hR0];unfold bW;simp
        have hor:=u64_or_join (s:=32) (H:=U0 * bW) (l:=U1) (Nat.mul_mod_left _ _) hu1 (by unfold bW at *;omega) (by unfold bW at *;omega);rw[hR0]at hor HDT HTT;obtain⟨top,htop⟩:∃ u,R0+U1=u:=⟨_,rfl⟩;rw[htop]at hor HDT HTT;have hR0l:R0<18446744073709551616:=by unfold bW at *;omega
        have htl:top<18446744073709551616:=by unfold bW at *;omega
        have hwR:IntKind.u64.wrap (R0:Int)=(R0:Int):=by rw[IntKind.wrap_u64];omega
        have hwU1:IntKind.u64.wrap (U1:Int)=(U1:Int):=by rw[IntKind.wrap_u64];unfold bW at hu1;omega
        clear hUU hp0 hp1 hp2 hU0 hU1 hU2 hV1 hV2 hR0 htop;unfold bW at e0 e1 e2 hu0 hu1;go_wp2;refine wp_region_K 18 (Eq wd) (by kernel_rfl) ?_;intro hD;rw[hwd];refine rP 0 83 17 rfl hD rfl ?_;clear hD;intro hD;simp only[Act.put,sqA,sqB,sqC];refine rP 1 84 16 rfl hD rfl ?_;clear hD;intro hD;simp only[Act.put,sqA,sqB,sqC];refine rP 2 85 15 rfl hD rfl ?_;clear hD;intro hD;simp only[Act.put,sqA,sqB,sqC];refine rP 3 86 14 rfl hD rfl ?_;clear hD;intro hD;simp only[Act.put,sqA,sqB,sqC];refine rP 4 87 13 rfl hD rfl ?_;clear hD;intro hD;simp only[Act.put,sqA,sqB,sqC];refine rT 5 88 12 rfl hD rfl (by intro w' hS';have e0:=(hS'▸c0);have e1:=(hS'▸c1);go_simp;with_reducible rfl) ?_;clear hD;intro hD;simp only[Act.put,sqA,sqB,sqC];refine rP 6 89 11 rfl hD rfl ?_;clear hD;intro hD;simp only[Act.put,sqA,sqB,sqC];refine rP 7 90 10 rfl hD rfl ?_;clear hD;intro hD;simp only[Act.put,sqA,sqB,sqC];refine rP 8 91 9 rfl hD rfl ?_;clear hD;intro hD;simp only[Act.put,sqA,sqB,sqC];refine rP 9 92 8 rfl hD rfl ?_;clear hD;intro hD;simp only[Act.put,sqA,sqB,sqC];refine rP 10 93 7 rfl hD rfl ?_;clear hD;intro hD;simp only[Act.put,sqA,sqB,sqC];refine rP 11 94 6 rfl hD rfl ?_;clear hD;intro hD;simp only[Act.put,sqA,sqB,sqC];refine rP 12 95 5 rfl hD rfl ?_;clear hD;intro hD;simp only[Act.put,sqA,sqB,sqC];refine rP 13 96 4 rfl hD rfl ?_;clear hD;intro hD;simp only[Act.put,sqA,sqB,sqC];refine rT 14 97 3 rfl hD rfl (by intro w' hS';have e0:=(hS'▸c0);have e1:=(hS'▸c1);go_simp;with_reducible rfl) ?_;clear hD;intro hD;simp only[Act.put,sqA,sqB,sqC];refine rP 15 98 2 rfl hD rfl ?_;clear hD;intro hD;simp only[Act.put,sqA,sqB,sqC];refine rP 16 99 1 rfl hD rfl ?_;clear hD;intro hD;simp only[Act.put,sqA,sqB,sqC];refine rO 17 0 rfl hD ?_;clear hD;intro K17 hK17;go_wp2;refine hK17 _ _ (by rfl) ?_;clear hK17;intro hS_17_17 hD;refine wpAnyK_done (by kernel_rfl) ?_ 0;clear hD;rw[hR0i,hor];clear hR0i hor hwR hwU1 hR0l c0 c1 c2 c3 c4 hwd;go_wp2;obtain⟨we,hwe⟩:∃ we,wd.drew=we:=⟨_,rfl⟩;have HSE:=Hq (show LwS w we BV BU (mm+2+1) (q+(mm+2)+1) v h from by rw[←hwe];exact HSD.out.drew);have c3:=HSE.out.rV.cell (show mm+1<mm+2+1 by omega);rw[HE1.out.1]at c3;have hV1n:¬ (V1=0):=by omega
        have hwV1:IntKind.u64.wrap (V1:Int)=(V1:Int):=by rw[IntKind.wrap_u64];omega
        have hwtop:IntKind.u64.wrap (top:Int)=(top:Int):=by rw[IntKind.wrap_u64];omega
        obtain⟨q0,hq0⟩:∃ u,top / V1=u:=⟨_,rfl⟩;obtain⟨r0,hr0⟩:∃ u,top%V1=u:=⟨_,rfl⟩;have hq0i:(top:Int).tdiv (V1:Int)=(q0:Int):=by rw[Int.tdiv_eq_ediv_of_nonneg (by omega),←hq0];simp
        have hr0i:(top:Int).tmod (V1:Int)=(r0:Int):=by rw[Int.tmod_eq_emod_of_nonneg (by omega),←hr0];simp
        have HQ0:=Hq (show q0 * V1+r0=top∧r0<bW∧UU / D≤q0 from⟨by rw[←hq0,←hr0,Nat.mul_comm];exact Nat.div_add_mod _ _,by rw[←hr0];have:=Nat.mod_lt top hv1;unfold bW;omega,by rw[←hq0];exact HDT.out.start⟩)
        have hwq0 : IntKind.u64.wrap (q0 : Int) = (q0 : Int) := by rw [IntKind.wrap_u64]; have : q0 ≤ top := by rw [← hq0]; exact Nat.div_le_self _ _
                                                                   omega
        have hwr0:IntKind.u64.wrap (r0:Int)=(r0:Int):=by rw[IntKind.wrap_u64];have:=HQ0.out.2.1;unfold bW at this;omega
        clear hq0 hr0;refine wp_region_K 18 (Eq we) (by kernel_rfl) ?_;intro hD;rw[hwe];refine rP 0 100 17 rfl hD rfl ?_;clear hD;intro hD;simp only[Act.put,sqA,sqB,sqC];refine rP 1 101 16 rfl hD rfl ?_;clear hD;intro hD;simp only[Act.put,sqA,sqB,sqC];refine rP 2 102 15 rfl hD rfl ?_;clear hD;intro hD;simp only[Act.put,sqA,sqB,sqC];refine rP 3 103 14 rfl hD rfl ?_;clear hD;intro hD;simp only[Act.put,sqA,sqB,sqC];refine rP 4 104 13 rfl hD rfl ?_;clear hD;intro hD;simp only[Act.put,sqA,sqB,sqC];refine rT 5 105 12 rfl hD rfl (by intro w' hS';have e0:=(hS'▸c3);go_simp;with_reducible rfl) ?_;clear hD;intro hD;simp only[Act.put,sqA,sqB,sqC];refine rP 6 106 11 rfl hD rfl ?_;clear hD;intro hD;simp only[Act.put,sqA,sqB,sqC];refine rP 7 107 10 rfl hD rfl ?_;clear hD;intro hD;simp only[Act.put,sqA,sqB,sqC];refine rP 8 108 9 rfl hD rfl ?_;clear hD;intro hD;simp only[Act.put,sqA,sqB,sqC];refine rP 9 109 8 rfl hD rfl ?_;clear hD;intro hD;simp only[Act.put,sqA,sqB,sqC];refine rP 10 110 7 rfl hD rfl ?_;clear hD;intro hD;simp only[Act.put,sqA,sqB,sqC];refine rP 11 111 6 rfl hD rfl ?_;clear hD;intro hD;simp only[Act.put,sqA,sqB,sqC];refine rP 12 112 5 rfl hD rfl ?_;clear hD;intro hD;simp only[Act.put,sqA,sqB,sqC];refine rT 13 113 4 rfl hD rfl (by intro w' hS';have e0:=(hS'▸c3);go_simp;with_reducible rfl) ?_;clear hD;intro hD;simp only[Act.put,sqA,sqB,sqC];refine rP 14 114 3 rfl hD rfl ?_;clear hD;intro hD;simp only[Act.put,sqA,sqB,sqC];refine rP 15 115 2 rfl hD rfl ?_;clear hD;intro hD;simp only[Act.put,sqA,sqB,sqC];refine rO 16 1 rfl hD ?_;clear hD;intro K16 hK16;go_wp2;refine hK16 _ _ (by rfl) ?_;clear hK16;intro hS_18_16 hD;refine rO 17 0 rfl hD ?_;clear hD;intro K17 hK17;go_wp2;refine hK17 _ _ (by rfl) ?_;clear hK17;intro hS_18_17 hD;refine wpAnyK_done (by kernel_rfl) ?_ 0;clear hD c3 hq0i hr0i hwtop hwe;go_upto_block 4 with(fail)
        go_cut [13] (fun vq wx=>∃ qn:Nat,vq=.int .u64 qn∧qn<bW∧UU / D≤qn∧qn≤UU / D+1∧LwS w wx BV BU (mm+2+1) (q+(mm+2)+1) v h);case first =>
         as_aux_lemma =>
         go_wp2;go_loopw [13,14] (fun vq vr wx=>∃ qn rn:Nat,vq=.int .u64 qn∧vr=.int .u64 rn∧qn * V1+rn=top∧rn<bW∧UU / D≤qn∧LwS w wx BV BU (mm+2+1) (q+(mm+2)+1) v h) (fun vq _ _=>(intOf vq).toNat);case atStart=>exact⟨q0,r0,rfl,rfl,HQ0.out.1,HQ0.out.2.1,HQ0.out.2.2,HSE.out⟩
         case round =>
          obtain⟨qn,rn,rfl,rfl,hqr,hrl,hge,hSx⟩:=hrel;have HQR:=Hq hqr;have HGQ:=Hq hge;have HSX:=Hq hSx;clear hqr hge hSx;have hql:qn<18446744073709551616:=(by have h1:qn * 1≤qn * V1:=Nat.mul_le_mul_left _ hv1;have:=HQR.out;omega);have hrl2:=hrl;unfold bW at hrl2;by_cases hq:bW≤qn
          · have HDN:=Hq (HDT.out.downA hq);obtain⟨q1,rfl⟩:∃ q1,qn=q1+1:=⟨qn - 1,by unfold bW at hq;omega⟩;have hqi:((4294967296:Int)≤(q1:Int)+1)=True:=eq_true (by unfold bW at hq;omega);have hqi2:((q1:Int)+1<4294967296)=False:=eq_false (by unfold bW at hq;omega);obtain⟨wf,hwf⟩:∃ wf,wr.drew=wf:=⟨_,rfl⟩;have HSF:=Hq (show LwS w wf BV BU (mm+2+1) (q+(mm+2)+1) v h from by rw[←hwf];exact HSX.out.drew);clear hq;go_wp2;refine wp_region_K 24 (Eq wf) (by kernel_rfl) ?_;intro hD;rw[hwf];refine rP 0 116 23 rfl hD rfl ?_;clear hD;intro hD;simp only[Act.put,sqA,sqB,sqC];refine rP 1 117 22 rfl hD rfl ?_;clear hD;intro hD;simp only[Act.put,sqA,sqB,sqC];refine rP 2 118 21 rfl hD rfl ?_;clear hD;intro hD;simp only[Act.put,sqA,sqB,sqC];refine rU 3 119 20 rfl hD rfl ?_;clear hD;intro hD;simp only[Act.put,sqA,sqB,sqC];refine rU 4 120 19 rfl hD rfl ?_;clear hD;intro hD;simp only[Act.put,sqA,sqB,sqC];refine rU 5 121 18 rfl hD rfl ?_;clear hD;intro hD;simp only[Act.put,sqA,sqB,sqC];refine rU 6 122 17 rfl hD rfl ?_;clear hD;intro hD;simp only[Act.put,sqA,sqB,sqC];refine rU 7 123 16 rfl hD rfl ?_;clear hD;intro hD;simp only[Act.put,sqA,sqB,sqC];refine rU 8 124 15 rfl hD rfl ?_;clear hD;intro hD;simp only[Act.put,sqA,sqB,sqC];refine rU 9 125 14 rfl hD rfl ?_;clear hD;intro hD;simp only[Act.put,sqA,sqB,sqC];refine rU 10 126 13 rfl hD rfl ?_;clear hD;intro hD;simp only[Act.put,sqA,sqB,sqC];refine rU 11 127 12 rfl hD rfl ?_;clear hD;intro hD;simp only[Act.put,sqA,sqB,sqC];refine rU 12 128 11 rfl hD rfl ?_;clear hD;intro hD;simp only[Act.put,sqA,sqB,sqC];refine rU 13 129 10 rfl hD rfl ?_;clear hD;intro hD;simp only[Act.put,sqA,sqB,sqC];refine rU 14 130 9 rfl hD rfl ?_;clear hD;intro hD;simp only[Act.put,sqA,sqB,sqC];refine rU 15 131 8 rfl hD rfl ?_;clear hD;intro hD;simp only[Act.put,sqA,sqB,sqC];refine rU 16 132 7 rfl hD rfl ?_;clear hD;intro hD;simp only[Act.put,sqA,sqB,sqC];refine rU 17 133 6 rfl hD rfl ?_;clear hD;intro hD;simp only[Act.put,sqA,sqB,sqC];refine rU 18 134 5 rfl hD rfl ?_;clear hD;intro hD;simp only[Act.put,sqA,sqB,sqC];refine rU 19 135 4 rfl hD rfl ?_;clear hD;intro hD;simp only[Act.put,sqA,sqB,sqC];refine rU 20 136 3 rfl hD rfl ?_;clear hD;intro hD;simp only[Act.put,sqA,sqB,sqC];refine rU 21 137 2 rfl hD rfl ?_;clear hD;intro hD;simp only[Act.put,sqA,sqB,sqC];refine rU 22 138 1 rfl hD rfl ?_;clear hD;intro hD;simp only[Act.put,sqA,sqB,sqC];refine rP 23 139 0 rfl hD rfl ?_;clear hD;intro hD;simp only[Act.put,sqA,sqB,sqC];refine wpAnyK_done (by kernel_rfl) ?_ 0;clear hD;have c3:=HSF.out.rV.cell (show mm+1<mm+2+1 by omega);rw[HE1.out.1]at c3;have HQR1:=Hq (show q1 * V1+(rn+V1)=top from by have:=HQR.out;rw[Nat.add_mul,Nat.one_mul]at this;omega);have HDN1:=Hq (show UU / D≤q1 from by have:=HDN.out;omega);have hq1n:(q1:Int)+1 - 1=(q1:Int):=by omega
            by_cases hb:bW≤rn+V1
            · have hbk:=HDT.out.brk HTT.out HQR1.out hb;have HCL:=Hq (And.intro hbk.1 (HDT.out.close hbk.1 (HDT.out.stop HQR1.out hbk.2)));have hbi:(4294967296:Int)≤(rn:Int)+(V1:Int):=by unfold bW at hb;omega
              clear hb hbk;go_wp2;go_meet;exact⟨q1,by go_num,HCL.out.1,HDN1.out,HCL.out.2,HSF.out⟩
            · have hbi:((4294967296:Int)≤(rn:Int)+(V1:Int))=False:=eq_false (by unfold bW at hb;omega);have hbi2:((rn:Int)+(V1:Int)<4294967296)=True:=eq_true (by unfold bW at hb;omega);have HRB:=Hq (Nat.lt_of_not_le hb);clear hb;go_wp2;go_roundw;case rel=>exact⟨q1,rn+V1,by go_num,by go_num,HQR1.out,HRB.out,HDN1.out,HSF.out⟩
              case measure=>first | (simp[intOf];done) | (simp[intOf];omega)
          · by_cases hl:rn * bW+U2<qn * V2
            · have HDN:=Hq (HDT.out.downB HQR.out hl);obtain⟨q1,rfl⟩:∃ q1,qn=q1+1:=⟨qn - 1,by
               rcases Nat.eq_zero_or_pos qn with e | e
               · rw[e,Nat.zero_mul]at hl;omega
               · omega⟩
              have hqb:q1+1<bW:=Nat.lt_of_not_le hq;obtain⟨wf,hwf⟩:∃ wf,wr.drew=wf:=⟨_,rfl⟩;have HSF:=Hq (show LwS w wf BV BU (mm+2+1) (q+(mm+2)+1) v h from by rw[←hwf];exact HSX.out.drew);have c2:=HSF.out.rU.cell (show p2<q+(mm+2)+1 by omega);have c4:=HSF.out.rV.cell (show mm<mm+2+1 by omega);rw[HE0.out.2.2]at c2;rw[HE1.out.2]at c4;have hpl:(q1+1) * V2<18446744073709551616:=(by have h1:=Nat.mul_le_mul (show (q1+1)≤4294967295 by unfold bW at hqb;omega) (show V2≤4294967295 by omega);omega);obtain⟨pv,hpv⟩:∃ u,(q1+1) * V2=u:=⟨_,rfl⟩;rw[hpv]at hl hpl;have hpvi:((q1+1:Nat):Int) * (V2:Int)=(pv:Int):=by rw[←hpv];simp
              try simp only[Int.natCast_add,Int.natCast_one]at hpvi
              have hwpv:IntKind.u64.wrap (pv:Int)=(pv:Int):=by rw[IntKind.wrap_u64];omega
              have hR1l:rn * bW<18446744073709551616:=Nat.lt_of_le_of_lt (Nat.mul_le_mul_right bW (show rn≤4294967295 from Nat.le_of_lt_succ hrl2)) (by decide);have hor2:=u64_or_join (s:=32) (H:=rn * bW) (l:=U2) (Nat.mul_mod_left _ _) e0 hR1l (Nat.lt_trans e0 (by decide));obtain⟨R1,hR1⟩:∃ u,rn * bW=u:=⟨_,rfl⟩;have hR1i:(rn:Int) * 4294967296=(R1:Int):=by rw[←hR1];unfold bW;simp
              rw[hR1]at hor2 hl hR1l;obtain⟨T2,hT2⟩:∃ u,R1+U2=u:=⟨_,rfl⟩;rw[hT2]at hor2 hl;have hwR1:IntKind.u64.wrap (R1:Int)=(R1:Int):=by rw[IntKind.wrap_u64];omega
              have hwU2:IntKind.u64.wrap (U2:Int)=(U2:Int):=by rw[IntKind.wrap_u64];omega
              have hwV2:IntKind.u64.wrap (V2:Int)=(V2:Int):=by rw[IntKind.wrap_u64];omega
              have hqni:((4294967296:Int)≤((q1+1:Nat):Int))=False:=eq_false (by unfold bW at hqb;omega);have hqn2:(((q1+1:Nat):Int)<4294967296)=True:=eq_true (by unfold bW at hqb;omega);try simp only[Int.natCast_add,Int.natCast_one]at hqni hqn2
              clear hpv hR1 hT2 hq hqb;have hgt:(T2:Int)<(pv:Int):=by omega
              go_wp2;refine wp_region_K 24 (Eq wf) (by kernel_rfl) ?_;intro hD;rw[hwf];refine rP 0 116 23 rfl hD rfl ?_;clear hD;intro hD;simp only[Act.put,sqA,sqB,sqC];refine rP 1 117 22 rfl hD rfl ?_;clear hD;intro hD;simp only[Act.put,sqA,sqB,sqC];refine rP 2 118 21 rfl hD rfl ?_;clear hD;intro hD;simp only[Act.put,sqA,sqB,sqC];refine rP 3 119 20 rfl hD rfl ?_;clear hD;intro hD;simp only[Act.put,sqA,sqB,sqC];refine rP 4 120 19 rfl hD rfl ?_;clear hD;intro hD;simp only[Act.put,sqA,sqB,sqC];refine rP 5 121 18 rfl hD rfl ?_;clear hD;intro hD;simp only[Act.put,sqA,sqB,sqC];refine rP 6 122 17 rfl hD rfl ?_;clear hD;intro hD;simp only[Act.put,sqA,sqB,sqC];refine rP 7 123 16 rfl hD rfl ?_;clear hD;intro hD;simp only[Act.put,sqA,sqB,sqC];refine rT 8 124 15 rfl hD rfl (by intro w' hS';have e0:=(hS'▸c2);have e1:=(hS'▸c4);go_simp;with_reducible rfl) ?_;clear hD;intro hD;simp only[Act.put,sqA,sqB,sqC];refine rP 9 125 14 rfl hD rfl ?_;clear hD;intro hD;simp only[Act.put,sqA,sqB,sqC];refine rP 10 126 13 rfl hD rfl ?_;clear hD;intro hD;simp only[Act.put,sqA,sqB,sqC];refine rP 11 127 12 rfl hD rfl ?_;clear hD;intro hD;simp only[Act.put,sqA,sqB,sqC];refine rP 12 128 11 rfl hD rfl ?_;clear hD;intro hD;simp only[Act.put,sqA,sqB,sqC];refine rP 13 129 10 rfl hD rfl ?_;clear hD;intro hD;simp only[Act.put,sqA,sqB,sqC];refine rP 14 130 9 rfl hD rfl ?_;clear hD;intro hD;simp only[Act.put,sqA,sqB,sqC];refine rP 15 131 8 rfl hD rfl ?_;clear hD;intro hD;simp only[Act.put,sqA,sqB,sqC];refine rP 16 132 7 rfl hD rfl ?_;clear hD;intro hD;simp only[Act.put,sqA,sqB,sqC];refine rP 17 133 6 rfl hD rfl ?_;clear hD;intro hD;simp only[Act.put,sqA,sqB,sqC];refine rP 18 134 5 rfl hD rfl ?_;clear hD;intro hD;simp only[Act.put,sqA,sqB,sqC];refine rT 19 135 4 rfl hD rfl (by intro w' hS';have e0:=(hS'▸c2);have e1:=(hS'▸c4);go_simp;with_reducible rfl) ?_;clear hD;intro hD;simp only[Act.put,sqA,sqB,sqC];refine rP 20 136 3 rfl hD rfl ?_;clear hD;intro hD;simp only[Act.put,sqA,sqB,sqC];refine rP 21 137 2 rfl hD rfl ?_;clear hD;intro hD;simp only[Act.put,sqA,sqB,sqC];refine rP 22 138 1 rfl hD rfl ?_;clear hD;intro hD;simp only[Act.put,sqA,sqB,sqC];refine rP 23 139 0 rfl hD rfl ?_;clear hD;intro hD;simp only[Act.put,sqA,sqB,sqC];refine wpAnyK_done (by kernel_rfl) ?_ 0;clear hD c2 c4 hpvi hor2 hR1i;have c3:=HSF.out.rV.cell (show mm+1<mm+2+1 by omega);rw[HE1.out.1]at c3;have HQR1:=Hq (show q1 * V1+(rn+V1)=top from by have:=HQR.out;rw[Nat.add_mul,Nat.one_mul]at this;omega);have HDN1:=Hq (show UU / D≤q1 from by have:=HDN.out;omega);have hq1n:(q1:Int)+1 - 1=(q1:Int):=by omega
              by_cases hb:bW≤rn+V1
              · have hbk:=HDT.out.brk HTT.out HQR1.out hb;have HCL:=Hq (And.intro hbk.1 (HDT.out.close hbk.1 (HDT.out.stop HQR1.out hbk.2)));have hbi:(4294967296:Int)≤(rn:Int)+(V1:Int):=by unfold bW at hb;omega
                clear hb hbk;go_wp2;go_meet;exact⟨q1,by go_num,HCL.out.1,HDN1.out,HCL.out.2,HSF.out⟩
              · have hbi:((4294967296:Int)≤(rn:Int)+(V1:Int))=False:=eq_false (by unfold bW at hb;omega);have hbi2:((rn:Int)+(V1:Int)<4294967296)=True:=eq_true (by unfold bW at hb;omega);have HRB:=Hq (Nat.lt_of_not_le hb);clear hb;go_wp2;go_roundw;case rel=>exact⟨q1,rn+V1,by go_num,by go_num,HQR1.out,HRB.out,HDN1.out,HSF.out⟩
                case measure=>first | (simp[intOf];done) | (simp[intOf];omega)
            · have HCL:=Hq (HDT.out.close (Nat.lt_of_not_le hq) (HDT.out.stop HQR.out (Nat.le_of_not_lt hl)));have HQB:=Hq (Nat.lt_of_not_le hq);have hqb:qn<bW:=Nat.lt_of_not_le hq;obtain⟨wf,hwf⟩:∃ wf,wr.drew=wf:=⟨_,rfl⟩;have HSF:=Hq (show LwS w wf BV BU (mm+2+1) (q+(mm+2)+1) v h from by rw[←hwf];exact HSX.out.drew);have c2:=HSF.out.rU.cell (show p2<q+(mm+2)+1 by omega);have c4:=HSF.out.rV.cell (show mm<mm+2+1 by omega);rw[HE0.out.2.2]at c2;rw[HE1.out.2]at c4;have hpl:(qn) * V2<18446744073709551616:=(by have h1:=Nat.mul_le_mul (show (qn)≤4294967295 by unfold bW at hqb;omega) (show V2≤4294967295 by omega);omega);obtain⟨pv,hpv⟩:∃ u,(qn) * V2=u:=⟨_,rfl⟩;rw[hpv]at hl hpl;have hpvi:((qn:Nat):Int) * (V2:Int)=(pv:Int):=by rw[←hpv];simp
              try simp only[Int.natCast_add,Int.natCast_one]at hpvi
              have hwpv:IntKind.u64.wrap (pv:Int)=(pv:Int):=by rw[IntKind.wrap_u64];omega
              have hR1l:rn * bW<18446744073709551616:=Nat.lt_of_le_of_lt (Nat.mul_le_mul_right bW (show rn≤4294967295 from Nat.le_of_lt_succ hrl2)) (by decide);have hor2:=u64_or_join (s:=32) (H:=rn * bW) (l:=U2) (Nat.mul_mod_left _ _) e0 hR1l (Nat.lt_trans e0 (by decide));obtain⟨R1,hR1⟩:∃ u,rn * bW=u:=⟨_,rfl⟩;have hR1i:(rn:Int) * 4294967296=(R1:Int):=by rw[←hR1];unfold bW;simp
              rw[hR1]at hor2 hl hR1l;obtain⟨T2,hT2⟩:∃ u,R1+U2=u:=⟨_,rfl⟩;rw[hT2]at hor2 hl;have hwR1:IntKind.u64.wrap (R1:Int)=(R1:Int):=by rw[IntKind.wrap_u64];omega
              have hwU2:IntKind.u64.wrap (U2:Int)=(U2:Int):=by rw[IntKind.wrap_u64];omega
              have hwV2:IntKind.u64.wrap (V2:Int)=(V2:Int):=by rw[IntKind.wrap_u64];omega
              have hqni:((4294967296:Int)≤((qn:Nat):Int))=False:=eq_false (by unfold bW at hqb;omega);have hqn2:(((qn:Nat):Int)<4294967296)=True:=eq_true (by unfold bW at hqb;omega);try simp only[Int.natCast_add,Int.natCast_one]at hqni hqn2
              clear hpv hR1 hT2 hq hqb;have hgt:¬ ((T2:Int)<(pv:Int)):=by omega
              go_wp2;refine wp_region_K 24 (Eq wf) (by kernel_rfl) ?_;intro hD;rw[hwf];refine rP 0 116 23 rfl hD rfl ?_;clear hD;intro hD;simp only[Act.put,sqA,sqB,sqC];refine rP 1 117 22 rfl hD rfl ?_;clear hD;intro hD;simp only[Act.put,sqA,sqB,sqC];refine rP 2 118 21 rfl hD rfl ?_;clear hD;intro hD;simp only[Act.put,sqA,sqB,sqC];refine rP 3 119 20 rfl hD rfl ?_;clear hD;intro hD;simp only[Act.put,sqA,sqB,sqC];refine rP 4 120 19 rfl hD rfl ?_;clear hD;intro hD;simp only[Act.put,sqA,sqB,sqC];refine rP 5 121 18 rfl hD rfl ?_;clear hD;intro hD;simp only[Act.put,sqA,sqB,sqC];refine rP 6 122 17 rfl hD rfl ?_;clear hD;intro hD;simp only[Act.put,sqA,sqB,sqC];refine rP 7 123 16 rfl hD rfl ?_;clear hD;intro hD;simp only[Act.put,sqA,sqB,sqC];refine rT 8 124 15 rfl hD rfl (by intro w' hS';have e0:=(hS'▸c2);have e1:=(hS'▸c4);go_simp;with_reducible rfl) ?_;clear hD;intro hD;simp only[Act.put,sqA,sqB,sqC];refine rP 9 125 14 rfl hD rfl ?_;clear hD;intro hD;simp only[Act.put,sqA,sqB,sqC];refine rP 10 126 13 rfl hD rfl ?_;clear hD;intro hD;simp only[Act.put,sqA,sqB,sqC];refine rP 11 127 12 rfl hD rfl ?_;clear hD;intro hD;simp only[Act.put,sqA,sqB,sqC];refine rP 12 128 11 rfl hD rfl ?_;clear hD;intro hD;simp only[Act.put,sqA,sqB,sqC];refine rP 13 129 10 rfl hD rfl ?_;clear hD;intro hD;simp only[Act.put,sqA,sqB,sqC];refine rP 14 130 9 rfl hD rfl ?_;clear hD;intro hD;simp only[Act.put,sqA,sqB,sqC];refine rP 15 131 8 rfl hD rfl ?_;clear hD;intro hD;simp only[Act.put,sqA,sqB,sqC];refine rP 16 132 7 rfl hD rfl ?_;clear hD;intro hD;simp only[Act.put,sqA,sqB,sqC];refine rP 17 133 6 rfl hD rfl ?_;clear hD;intro hD;simp only[Act.put,sqA,sqB,sqC];refine rP 18 134 5 rfl hD rfl ?_;clear hD;intro hD;simp only[Act.put,sqA,sqB,sqC];refine rT 19 135 4 rfl hD rfl (by intro w' hS';have e0:=(hS'▸c2);have e1:=(hS'▸c4);go_simp;with_reducible rfl) ?_;clear hD;intro hD;simp only[Act.put,sqA,sqB,sqC];refine rP 20 136 3 rfl hD rfl ?_;clear hD;intro hD;simp only[Act.put,sqA,sqB,sqC];refine rP 21 137 2 rfl hD rfl ?_;clear hD;intro hD;simp only[Act.put,sqA,sqB,sqC];refine rP 22 138 1 rfl hD rfl ?_;clear hD;intro hD;simp only[Act.put,sqA,sqB,sqC];refine rP 23 139 0 rfl hD rfl ?_;clear hD;intro hD;simp only[Act.put,sqA,sqB,sqC];refine wpAnyK_done (by kernel_rfl) ?_ 0;clear hD c2 c4 hpvi hor2 hR1i;go_wp2;go_meet;exact⟨qn,rfl,HQB.out,HGQ.out,HCL.out,HSF.out⟩
        case rest =>
         obtain⟨qn,rfl,hqb,hge,hle,hSq⟩:=hcut;have HQB:=Hq hqb;have HGL:=Hq (And.intro hge hle);have HSQ:=Hq hSq;have hqb2:=hqb;unfold bW at hqb2;clear hqb hge hle hSq HSE HSD HSJ;go_wp2;go_loopw [15,153] (fun vb vi wx=>∃(bN i:Nat) (f':Nat→Nat),vb=.int .i64 bN∧vi=.int .i64 i∧MsW (mm+2) v qn j h f' i bN∧LwS w wx BV BU (mm+2+1) (q+(mm+2)+1) v f') (fun _ vi _=>mm+2 - (intOf vi).toNat);case atStart=>exact⟨0,0,h,rfl,rfl,MsW.start h,HSQ.out⟩
         case round =>
          obtain⟨bN,i,f',rfl,rfl,hM,hS⟩:=hrel;have HM:=Hq hM;have HS:=Hq hS;have hin:=hM.hi;have hbN:=hM.hb;clear hM hS;by_cases hlt:i<mm+2
          · as_aux_lemma =>
            obtain⟨ip,hip⟩:∃ u,j+i=u:=⟨_,rfl⟩;have hipi:(i:Int)+(j:Int)=(ip:Int):=by omega
            have hipl:ip<q+(mm+2)+1:=by omega
            have hiLi:(ip:Int)<(q:Int)+((mm:Int)+2)+1:=by omega
            have hiMi:(i:Int)<(mm:Int)+2:=by omega
            have c0:=HS.out.rU.cell hipl;have c1:=HS.out.rV.cell (show i<mm+2+1 by omega);have f0:=HS.out.rU.free ip;have hxl:=HS.out.lU ip hipl;have hdl:=HVL2.out i hlt;have hoff:f' ip=h ip:=HM.out.off ip (by omega);have HN:=Hq (fun(r b2:Nat) (hr:r<bW) (he:r+qn * v i+bN=h (j+i)+bW * b2)=>HM.out.next hlt HQB.out HVL2.out (fun a ha=>HS.out.lU (j+a) (by omega)) hr he);rw[hip,←hoff]at HN;obtain⟨x,hxe⟩:∃ u,f' ip=u:=⟨_,rfl⟩;obtain⟨d,hde⟩:∃ u,v i=u:=⟨_,rfl⟩;rw[hxe]at c0 hxl HN;rw[hde]at c1 hdl HN;obtain⟨pv,hpv⟩:∃ u,qn * d=u:=⟨_,rfl⟩;have hpvl:pv≤4294967295 * 4294967295:=by rw[←hpv];exact Nat.mul_le_mul (Nat.le_of_lt_succ hqb2) (Nat.le_of_lt_succ hdl)
            have hpvi:(qn:Int) * (d:Int)=(pv:Int):=by rw[←hpv];simp
            rw[hpv]at HN;have hand:=u64_low (L:=pv) (by omega);obtain⟨pl,hpl⟩:∃ u,pv%4294967296=u:=⟨_,rfl⟩;obtain⟨ph,hph⟩:∃ u,pv / 4294967296=u:=⟨_,rfl⟩;have hpll:pl<bW:=by unfold bW;omega
            have hphl:ph+1<bW:=by unfold bW;omega
            have hpq:ph * bW+pl=pv:=by unfold bW;omega
            rw[hpl]at hand;have hphi:(pv:Int) / 4294967296=(ph:Int):=by omega
            obtain⟨r,b2,hrl,hri,hbi,heq⟩:=ms_machine hxl hbN hpll hphl;rw[hpq]at heq;have HNN:=Hq (HN.out r b2 hrl heq);have HS2:=Hq (HS.out.setU (k:=ip) hrl);obtain⟨X,hX⟩:∃ X:Int,(x:Int) - (bN:Int) - (pl:Int)=X:=⟨_,rfl⟩;rw[hX]at hri hbi;have hXl:-9223372036854775808≤X:=by unfold bW at *;omega
            have hXu:X≤9223372036854775807:=by unfold bW at *;omega
            obtain⟨Y,hY⟩:∃ Y:Int,X / 4294967296=Y:=⟨_,rfl⟩;rw[hY]at hbi;clear hip hoff hxe hde hpv hpl hph hpq heq HN hpvl;unfold bW at hxl hdl hbN hpll hphl hrl;go_wp2;exact⟨⟨b2,i+1,_,rfl,by go_num,HNN.out,HS2.out⟩,by simp[intOf];omega⟩
          · obtain rfl:i=mm+2:=by omega
            have hp0:j+(mm+2)=p0:=HP.out.1;have hp0l:p0<q+(mm+2)+1:=by omega
            have c0:=HS.out.rU.cell hp0l;have f0:=HS.out.rU.free p0;have hoff:f' p0=U0:=by rw[HM.out.off p0 (by omega)];exact HE0.out.1
            rw[hoff]at c0;have hlast:=ms_last HM.out (fun a ha=>HS.out.lU (j+a) (by omega)) HUU.out HDE.out (Nat.lt_of_lt_of_le (bW_pos _) HD0.out) HDn.out HGL.out.1 HGL.out.2;rw[hp0,HE0.out.1]at hlast;have HRND:=Hq (fun(F:Nat→Nat) (hlo:∀ k,k<j→F k=h k) (hhi:∀ k,j+(mm+2)<k→F k=h k) (hw:vW (fun i=>F (j+i)) (mm+3)=UU%D)=>ldW_round (f:=h) (f':=F) (A:=AV) (D:=D) (n:=mm+2) (j:=j) (L:=q+(mm+2)+1) HULJ.out (by omega) (Nat.lt_of_lt_of_le (bW_pos _) HD0.out) HDn.out HVJ.out hlo hhi (by rw[show mm+2+1=mm+3 from rfl,HUU.out];exact hw));have HOFF:=Hq (fun k hk=>HM.out.off k hk);rcases hlast with⟨hb,hV⟩ | ⟨hb,hV⟩
            · as_aux_lemma =>
              subst hb;have HS2:=Hq (HS.out.setU (k:=p0) (x:=0) (by decide));have HW:=Hq (HRND.out (upd f' p0 0) (fun k hk=>by rw[upd_off _ (show ¬ k=p0 by omega)];exact HOFF.out k (Or.inl hk)) (fun k hk=>by rw[upd_off _ (show ¬ k=p0 by omega)];exact HOFF.out k (Or.inr (Nat.le_of_lt hk))) (by have:=win_done (n:=mm+2) hV;rw[hp0]at this;exact this));clear hV hoff;go_wp2;exact⟨⟨j,upd f' p0 0,by omega,rfl,HW.out,HS2.out⟩,by simp[intOf]⟩
            · subst hb;have HV:=Hq hV;clear hV hoff;have hx1:(U0:Int) - ((U0:Int)+1) = -1:=by omega
              have HS2:=Hq (HS.out.setU (k:=p0) (x:=4294967295) (by decide));clear hlt;go_wp2;have HV1:=Hq (show vW (fun a=>upd f' p0 4294967295 (j+a)) (mm+2)+D=UU%D+bW ^ (mm+2)from by
               rw[vW_congr (g:=fun a=>f' (j+a)) (fun a ha=>upd_off f' (show ¬ j+a=p0 by omega))]
               exact HV.out)
              obtain⟨f1,hf1⟩:∃ u,upd f' p0 4294967295=u:=⟨_,rfl⟩;have HF1:=Hq (show f1 p0=4294967295∧∀ k,k<j∨p0<k→f1 k=h k from⟨by rw[←hf1,upd_at],fun k hk=>by rw[←hf1,upd_off _ (show ¬ k=p0 by omega)];exact HOFF.out k (by omega)⟩);rw[hf1]at HS2 HV1;clear hf1 c0 f0 HV HOFF HS HM;go_loopw [20,209] (fun vc vi wx=>∃(cN i:Nat) (f2:Nat→Nat),vc=.int .u64 cN∧vi=.int .i64 i∧AbW (mm+2) v j f1 f2 i cN∧LwS w wx BV BU (mm+2+1) (q+(mm+2)+1) v f2) (fun _ vi _=>mm+2 - (intOf vi).toNat);case atStart=>exact⟨0,0,f1,rfl,rfl,AbW.start f1,HS2.out⟩
              case round =>
               obtain⟨cN,i,f2,rfl,rfl,hA,hS⟩:=hrel;have HAb:=Hq hA;have HS:=Hq hS;have hin:=hA.hi;have hcN:=hA.hc;clear hA hS;by_cases hlt:i<mm+2
               · obtain⟨ip,hip⟩:∃ u,j+i=u:=⟨_,rfl⟩;have hipi:(i:Int)+(j:Int)=(ip:Int):=by omega
                 have hipl:ip<q+(mm+2)+1:=by omega
                 have hiLi:(ip:Int)<(q:Int)+((mm:Int)+2)+1:=by omega
                 have hiMi:(i:Int)<(mm:Int)+2:=by omega
                 have hipw:IntKind.i64.wrap (ip:Int)=(ip:Int):=by rw[IntKind.wrap_i64];omega
                 have hip0:(0:Int)≤(ip:Int):=by omega
                 have hiw:IntKind.i64.wrap (i:Int)=(i:Int):=by rw[IntKind.wrap_i64];omega
                 have hi0:(0:Int)≤(i:Int):=by omega
                 obtain⟨wf,hwf⟩:∃ wf,wr.drew=wf:=⟨_,rfl⟩;have HSF:=Hq (show LwS w wf BV BU (mm+2+1) (q+(mm+2)+1) v f2 from by rw[←hwf];exact HS.out.drew);have c0:=HSF.out.rU.cell hipl;have c1:=HSF.out.rV.cell (show i<mm+2+1 by omega);have f0:=HSF.out.rU.free ip;have hxl:=HSF.out.lU ip hipl;have hdl:=HVL2.out i hlt;have hoff:f2 ip=f1 ip:=HAb.out.off ip (by omega);have HN:=Hq (fun(S:Nat) (hS:S=cN+(f1 (j+i)+v i))=>HAb.out.next hlt (by rw[hip,←hoff];exact hxl) hdl hS);rw[hip,←hoff]at HN;obtain⟨x,hxe⟩:∃ u,f2 ip=u:=⟨_,rfl⟩;obtain⟨d,hde⟩:∃ u,v i=u:=⟨_,rfl⟩;rw[hxe]at c0 hxl HN;rw[hde]at c1 hdl HN;obtain⟨S,hSe⟩:∃ S,cN+(x+d)=S:=⟨_,rfl⟩;have HNN:=Hq (HN.out S hSe.symm);have hSi:(x:Int)+(d:Int)+(cN:Int)=(S:Int):=by omega
                 have hSl:S<18446744073709551616:=by unfold bW at hxl hdl;omega
                 have hwx:IntKind.u64.wrap (x:Int)=(x:Int):=by rw[IntKind.wrap_u64];unfold bW at hxl;omega
                 have hwd:IntKind.u64.wrap (d:Int)=(d:Int):=by rw[IntKind.wrap_u64];unfold bW at hdl;omega
                 have hwS:IntKind.u64.wrap (S:Int)=(S:Int):=by rw[IntKind.wrap_u64];omega
                 obtain⟨y2,hy2⟩:∃ u,(x:Int)+(d:Int)=u:=⟨_,rfl⟩;have hwy2:IntKind.u64.wrap ((x:Int)+(d:Int))=(x:Int)+(d:Int):=by rw[IntKind.wrap_u64];unfold bW at hxl hdl;omega
                 have HS2:=Hq (HSF.out.setU (k:=ip) (x:=S%bW) (Nat.mod_lt _ (by decide)));obtain⟨sl,hsl⟩:∃ u,S%bW=u:=⟨_,rfl⟩;obtain⟨sh,hsh⟩:∃ u,S / bW=u:=⟨_,rfl⟩;have hlo:(S:Int)%4294967296=(sl:Int):=by rw[←hsl];unfold bW;omega
                 have hhi:(S:Int) / 4294967296=(sh:Int):=by rw[←hsh];unfold bW;omega
                 rw[hsl]at HS2 HNN;rw[hsh]at HNN;clear hip hoff hxe hde hSe HN hy2 hsl hsh;unfold bW at hxl hdl;go_wp2;refine wp_region_K 16 (Eq wf) (by kernel_rfl) ?_;intro hD;rw[hwf];refine rP 0 212 15 rfl hD rfl ?_;clear hD;intro hD;simp only[Act.put,sqA,sqB,sqC];refine rP 1 213 14 rfl hD rfl ?_;clear hD;intro hD;simp only[Act.put,sqA,sqB,sqC];refine rP 2 214 13 rfl hD rfl ?_;clear hD;intro hD;simp only[Act.put,sqA,sqB,sqC];refine rP 3 215 12 rfl hD rfl ?_;clear hD;intro hD;simp only[Act.put,sqA,sqB,sqC];refine rP 4 216 11 rfl hD rfl ?_;clear hD;intro hD;simp only[Act.put,sqA,sqB,sqC];refine rT 5 217 10 rfl hD rfl (by intro w' hS';have e0:=(hS'▸c0);have e1:=(hS'▸c1);go_simp;with_reducible rfl) ?_;clear hD;intro hD;simp only[Act.put,sqA,sqB,sqC];refine rP 6 218 9 rfl hD rfl ?_;clear hD;intro hD;simp only[Act.put,sqA,sqB,sqC];refine rP 7 219 8 rfl hD rfl ?_;clear hD;intro hD;simp only[Act.put,sqA,sqB,sqC];refine rP 8 220 7 rfl hD rfl ?_;clear hD;intro hD;simp only[Act.put,sqA,sqB,sqC];refine rP 9 221 6 rfl hD rfl ?_;clear hD;intro hD;simp only[Act.put,sqA,sqB,sqC];refine rT 10 222 5 rfl hD rfl (by intro w' hS';have e0:=(hS'▸c0);have e1:=(hS'▸c1);go_simp;with_reducible rfl) ?_;clear hD;intro hD;simp only[Act.put,sqA,sqB,sqC];refine rP 11 223 4 rfl hD rfl ?_;clear hD;intro hD;simp only[Act.put,sqA,sqB,sqC];refine rP 12 224 3 rfl hD rfl ?_;clear hD;intro hD;simp only[Act.put,sqA,sqB,sqC];refine rP 13 225 2 rfl hD rfl ?_;clear hD;intro hD;simp only[Act.put,sqA,sqB,sqC];refine rP 14 226 1 rfl hD rfl ?_;clear hD;intro hD;simp only[Act.put,sqA,sqB,sqC];refine rO 15 0 rfl hD ?_;clear hD;intro K15 hK15;go_wp2;refine hK15 _ _ (by rfl) ?_;clear hK15;intro hS_39_15 hD;refine wpAnyK_done (by kernel_rfl) ?_ 0;clear hD;clear c1 hwx hwd hwy2 hSi hipw hiw hip0 hi0 hwf;go_wp2;refine⟨⟨_,_,_,_,⟨sh,rfl,i+1,?_,_,HNN.out,HS2.out⟩,rfl,rfl,rfl,rfl⟩,?_⟩
                 · go_num
                 · first | (simp[intOf];done) | (simp[intOf];omega)
               · as_aux_lemma =>
                 obtain rfl:i=mm+2:=by omega
                 obtain⟨hc1,hW2⟩:=ab_last HAb.out (fun a ha=>HS.out.lU (j+a) (by omega)) HDE.out (Nat.lt_trans (Nat.mod_lt _ (Nat.lt_of_lt_of_le (bW_pos _) HD0.out)) HDn.out) HV1.out;subst hc1;have c0:=HS.out.rU.cell hp0l;have f0:=HS.out.rU.free p0;rw[HAb.out.off p0 (by omega),HF1.out.1]at c0;have HS3:=Hq (HS.out.setU (k:=p0) (x:=0) (by decide));have HW:=Hq (HRND.out (upd f2 p0 0) (fun k hk=>by rw[upd_off _ (show ¬ k=p0 by omega),HAb.out.off k (Or.inl hk)];exact HF1.out.2 k (Or.inl hk)) (fun k hk=>by rw[upd_off _ (show ¬ k=p0 by omega),HAb.out.off k (Or.inr (Nat.le_of_lt hk))];exact HF1.out.2 k (by omega)) (by have:=win_done (n:=mm+2) hW2;rw[hp0]at this;exact this));clear hlt hW2;go_wp2;exact⟨⟨j,upd f2 p0 0,by omega,rfl,HW.out,HS3.out⟩,by simp[intOf]⟩
end Go.Proofs.YtdhnkmbjogmmkaaGreatDoor

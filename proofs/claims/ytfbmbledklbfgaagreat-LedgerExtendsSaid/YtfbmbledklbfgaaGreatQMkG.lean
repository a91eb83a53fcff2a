import Derived.Test.YtfbmbledklbfgaaGreatQMkF
set_option linter.unusedVariables false
set_option linter.unusedSimpArgs false
namespace Go.Proofs.YtfbmbledklbfgaaGreat
set_option maxRecDepth 100000
set_option maxHeartbeats 8000000
open Go.RowKit
theorem nodeH_size(a b:ByteArray):(nodeH a b).size=32:=by unfold nodeH;rw[bstr_size,shaL_length]
theorem popC_small{p:List ByteArray}(ok:Bool)(h:∀ x∈p,x.size≤100):(popC p ok).1.size≤100∧∀ x∈(popC p ok).2.1,x.size≤100:=by
 cases hp:p.getLast? with
 | none=>rw[popC_none ok hp];exact⟨Nat.zero_le _,h⟩
 | some x=>rw[popC_some ok hp];exact⟨h x (List.mem_of_getLast? hp),fun y hy=>h y (List.dropLast_subset p hy)⟩
theorem climbF_small:∀(f:Nat) (B:ByteArray) (m n:Nat) (wh:Bool) (p:List ByteArray) (ok:Bool),B.size≤100→(∀ x∈p,x.size≤100) →
 (climbF f B m n wh p ok).1.1.size≤100∧(climbF f B m n wh p ok).1.2.size≤100∧∀ x∈(climbF f B m n wh p ok).2.1,x.size≤100
 | 0,B,m,n,wh,p,ok,hB,hp=>⟨Nat.zero_le _,Nat.zero_le _,hp⟩
 | f+1,B,m,n,wh,p,ok,hB,hp=>by
  have hc:=popC_small ok hp;rw[climbF_succ];split
  · exact⟨Nat.zero_le _,Nat.zero_le _,hp⟩
  · split
    · split
      · exact⟨hB,hB,hp⟩
      · exact⟨hc.1,hc.1,hc.2⟩
    · split
      · have:=climbF_small f B m (halfN n) wh (popC p ok).2.1 (popC p ok).2.2 hB hc.2;exact⟨this.1,by rw[nodeH_size];decide,this.2.2⟩
      · have:=climbF_small f B (m - halfN n) (n - halfN n) false (popC p ok).2.1 (popC p ok).2.2 hB hc.2;exact⟨by rw[nodeH_size];decide,by rw[nodeH_size];decide,this.2.2⟩
def RetCl(B R K P C:Nat)(bf:ByteArray)(A:Option Addr)(nn:Nat)(r:(ByteArray×ByteArray)×List ByteArray×Bool)(w:World)(e:Ending)(w':World):Prop:=
 ∃ n' c',e=.returned (.tuple #[.string r.1.1,.string r.1.2])∧XS w' B R K P C bf A n' c' r.2.1 r.2.2∧n'≤nn∧Oth2 R K w w'
theorem mx_climb(B R K P C:Nat)(bf:ByteArray)(hbf:bf.size≤100)(hd:Dis5 B R K P C):∀(f m n:Nat) (wh:Bool) (A:Option Addr) (nn c:Nat) (p:List ByteArray) (ok:Bool) (w:World),XS w B R K P C bf A nn c p ok→nn≤4096→(∀ x∈p,x.size≤100)→1≤m→m≤n→n≤f→n≤1000000 →
 Calls Tryz.prog 69 #[.int .i64 m,.int .i64 n,.bool wh,.pointer (some ⟨K,0,none⟩),.pointer (some ⟨B,0,none⟩),.pointer (some ⟨P,0,none⟩),.pointer (some ⟨C,0,none⟩)] w (RetCl B R K P C bf A nn (climbF f bf m n wh p ok) w):=by
 intro f
 induction f with
 | zero=>intro m n wh A nn c p ok w hx hnn hsp h1 h2 h3 h4;omega
 | succ f ih =>
  intro m n wh A nn c p ok w hx hnn hsp h1 h2 h3 h4;have HX:=Hq hx;have HBF:=Hq hbf;have HSP:=Hq hsp
  cases ok with
  | false =>
   have HR:=Hq (climbF_no (f+1) bf m n wh p);clear ih hx hbf hsp;have k0:=one_cell HX.out.k;have b0:=one_cell HX.out.b;have f0:=one_cell HX.out.f;have g0:=one_cell HX.out.g;go_enter Tryz.func69,Tryz.ntmps69;go_wp2;go_ret2;rw[HR.out];exact⟨nn,c,rfl,HX.out,Nat.le_refl _,Oth2.refl _ _ _⟩
  | true =>
   have hcl:=climbF_succ f bf m n wh p true;rw[if_neg (show ¬ (true=false)from by decide)]at hcl;by_cases hm:m=n
   · rw[if_pos hm]at hcl;have hmi:((m:Int)==n)=true:=by rw[hm];exact beq_self_eq_true _
     cases wh with
     | true =>
      rw[if_pos rfl]at hcl;have HR:=Hq hcl;clear ih hx hbf hsp hcl;have k0:=one_cell HX.out.k;have b0:=one_cell HX.out.b;have f0:=one_cell HX.out.f;have g0:=one_cell HX.out.g;subst hm;go_enter Tryz.func69,Tryz.ntmps69;go_wp2;go_ret2;rw[HR.out];exact⟨nn,c,rfl,HX.out,Nat.le_refl _,Oth2.refl _ _ _⟩
     | false =>
      rw[if_neg (show ¬ (false=true)from by decide)]at hcl;have HR:=Hq hcl;obtain⟨⟨pa,pb,pc⟩,hpc⟩:∃ r,popC p true=r:=⟨_,rfl⟩;have HPC:=Hq hpc;clear ih hx hbf hsp hcl hpc;subst hm;go_enter Tryz.func69,Tryz.ntmps69;have k0:=one_cell HX.out.k;have b0:=one_cell HX.out.b;have f0:=one_cell HX.out.f;have g0:=one_cell HX.out.g;go_wp2_with fail;refine(mx_pop B R K P C bf A nn c p true w HX.out hd hnn).mono ?_;rintro e w1 ⟨n1,c1,rfl,hx1,hn1,ho1⟩;have HX1:=Hq hx1;have HO1:=Hq ho1;rw[HPC.out]at HX1⊢;clear hx1 ho1 k0 b0 f0 g0;go_wp2;go_ret2;rw[HR.out,HPC.out];exact⟨n1,c1,rfl,HX1.out,hn1,HO1.out⟩
   · rw[if_neg hm]at hcl;have hmi:((m:Int)==n)=false:=by rw[beq_eq_false_iff_ne];omega
     have hn2:2≤n:=by omega
     have k1:=halfN_pos n;have k2:=halfN_lt hn2;have HH:=Hq (m_half n hn2 h4);have hsm:=popC_small true hsp;obtain⟨k,hk⟩:∃ k,halfN n=k:=⟨_,rfl⟩;obtain⟨⟨pa,pb,pc⟩,hpc⟩:∃ r,popC p true=r:=⟨_,rfl⟩;have HPC:=Hq hpc;rw[hk]at hcl HH k1 k2;rw[hpc]at hcl hsm;simp only[]at hcl hsm;by_cases hmk:m≤k
     · rw[if_pos hmk]at hcl;have hci:((m:Int)≤k):=by omega
       have hcs:=climbF_small f bf m k wh pb pc hbf hsm.2;have HI:=Hq (fun n' c' w (h:XS w B R K P C bf A n' c' pb pc) (hn':n'≤4096)=>ih m k wh A n' c' pb pc w h hn' hsm.2 h1 hmk (by omega) (by omega));obtain⟨⟨⟨ra,rb⟩,rl,ro⟩,hr⟩:∃ r,climbF f bf m k wh pb pc=r:=⟨_,rfl⟩;rw[hr]at hcl hcs HI;simp only[]at hcl hcs;have HN:=Hq (m_node rb pa (by omega) (by have:=hsm.1;omega));obtain⟨nd,hnd⟩:∃ z,nodeH rb pa=z:=⟨_,rfl⟩;rw[hnd]at HN hcl;have HR:=Hq hcl;clear ih hx hbf hsp hcl hpc hr hcs hsm hnd hk hm;go_enter Tryz.func69,Tryz.ntmps69;have k0:=one_cell HX.out.k;have b0:=one_cell HX.out.b;have f0:=one_cell HX.out.f;have g0:=one_cell HX.out.g;go_wp2_with fail;refine(mx_pop B R K P C bf A nn c p true w HX.out hd hnn).mono ?_;rintro e w1 ⟨n1,c1,rfl,hx1,hn1,ho1⟩;have HX1:=Hq hx1;have HO1:=Hq ho1;rw[HPC.out]at HX1⊢;clear hx1 ho1 k0 b0 f0 g0;go_wp2_with fail;refine(HH.out _).mono ?_;rintro e w2 ⟨rfl,rfl⟩;have k0:=one_cell HX1.out.k;have b0:=one_cell HX1.out.b;have f0:=one_cell HX1.out.f;have g0:=one_cell HX1.out.g;have HI1:=Hq (HI.out n1 c1 w1 HX1.out (by omega));go_wp2_with fail;refine HI1.out.mono ?_;rintro e w3 ⟨n3,c3,rfl,hx3,hn3,ho3⟩;have HX3:=Hq hx3;have HO3:=Hq (HO1.out.trans ho3);clear hx3 ho3 k0 b0 f0 g0;go_wp2_with fail;refine(HN.out _).mono ?_;rintro e w4 ⟨rfl,hb4⟩;have HX4:=Hq (HX3.out.next hb4);have HO4:=Hq (HO3.out.trans (Oth2.of_below hb4));clear hb4;go_wp2;go_ret2;rw[HR.out];exact⟨n3,c3,rfl,HX4.out,by omega,HO4.out⟩
     · rw[if_neg hmk]at hcl;have hci:¬ ((m:Int)≤k):=by omega
       have hcs:=climbF_small f bf (m - k) (n - k) false pb pc hbf hsm.2;have HI:=Hq (fun n' c' w (h:XS w B R K P C bf A n' c' pb pc) (hn':n'≤4096)=>show Calls Tryz.prog 69 #[.int .i64 ((m:Int) - k),.int .i64 ((n:Int) - k),.bool false,.pointer (some ⟨K,0,none⟩),.pointer (some ⟨B,0,none⟩),.pointer (some ⟨P,0,none⟩),.pointer (some ⟨C,0,none⟩)] w (RetCl B R K P C bf A n' (climbF f bf (m - k) (n - k) false pb pc) w)from by
        rw[show (m:Int) - k=((m - k:Nat):Int)from by omega,show (n:Int) - k=((n - k:Nat):Int)from by omega]
        exact ih (m - k) (n - k) false A n' c' pb pc w h hn' hsm.2 (by omega) (by omega) (by omega) (by omega))
       obtain⟨⟨⟨ra,rb⟩,rl,ro⟩,hr⟩:∃ r,climbF f bf (m - k) (n - k) false pb pc=r:=⟨_,rfl⟩;rw[hr]at hcl hcs HI;simp only[]at hcl hcs;have HN1:=Hq (m_node pa ra (by have:=hsm.1;omega) (by omega));have HN2:=Hq (m_node pa rb (by have:=hsm.1;omega) (by omega));obtain⟨nd1,hnd1⟩:∃ z,nodeH pa ra=z:=⟨_,rfl⟩;obtain⟨nd2,hnd2⟩:∃ z,nodeH pa rb=z:=⟨_,rfl⟩;rw[hnd1]at HN1 hcl;rw[hnd2]at HN2 hcl;have HR:=Hq hcl;clear ih hx hbf hsp hcl hpc hr hcs hsm hnd1 hnd2 hk hm;go_enter Tryz.func69,Tryz.ntmps69;have k0:=one_cell HX.out.k;have b0:=one_cell HX.out.b;have f0:=one_cell HX.out.f;have g0:=one_cell HX.out.g;go_wp2_with fail;refine(mx_pop B R K P C bf A nn c p true w HX.out hd hnn).mono ?_;rintro e w1 ⟨n1,c1,rfl,hx1,hn1,ho1⟩;have HX1:=Hq hx1;have HO1:=Hq ho1;rw[HPC.out]at HX1⊢;clear hx1 ho1 k0 b0 f0 g0;go_wp2_with fail;refine(HH.out _).mono ?_;rintro e w2 ⟨rfl,rfl⟩;have k0:=one_cell HX1.out.k;have b0:=one_cell HX1.out.b;have f0:=one_cell HX1.out.f;have g0:=one_cell HX1.out.g;have HI1:=Hq (HI.out n1 c1 w1 HX1.out (by omega));go_wp2_with fail;refine HI1.out.mono ?_;rintro e w3 ⟨n3,c3,rfl,hx3,hn3,ho3⟩;have HX3:=Hq hx3;have HO3:=Hq (HO1.out.trans ho3);clear hx3 ho3 k0 b0 f0 g0;go_wp2_with fail;refine(HN1.out _).mono ?_;rintro e w4 ⟨rfl,hb4⟩;have HX4:=Hq (HX3.out.next hb4);have HO4:=Hq (HO3.out.trans (Oth2.of_below hb4));clear hb4;go_wp2_with fail;refine(HN2.out _).mono ?_;rintro e w5 ⟨rfl,hb5⟩;have HX5:=Hq (HX4.out.next hb5);have HO5:=Hq (HO4.out.trans (Oth2.of_below hb5));clear hb5;go_wp2;go_ret2;rw[HR.out];exact⟨n3,c3,rfl,HX5.out,by omega,HO5.out⟩
end Go.Proofs.YtfbmbledklbfgaaGreat

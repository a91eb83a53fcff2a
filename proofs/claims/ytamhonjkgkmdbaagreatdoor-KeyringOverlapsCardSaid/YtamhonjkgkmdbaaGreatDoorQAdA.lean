import Derived.Test.YtamhonjkgkmdbaaGreatDoorQOpK
import Derived.Test.YtamhonjkgkmdbaaGreatDoorQScY
import Derived.Test.YtamhonjkgkmdbaaGreatDoorQKyV
import Derived.Test.YtamhonjkgkmdbaaGreatDoorQKyG
import Derived.Test.YtamhonjkgkmdbaaGreatDoorQScV
import Derived.Test.YtamhonjkgkmdbaaGreatDoorQKyX
import Derived.Test.YtamhonjkgkmdbaaGreatDoorQKyB
import Derived.Test.YtamhonjkgkmdbaaGreatDoorQIt
set_option linter.unusedVariables false
set_option linter.unusedSimpArgs false
namespace Go.Proofs.YtamhonjkgkmdbaaGreatDoor
set_option maxRecDepth 100000
set_option maxHeartbeats 4000000
open Go.RowKit
def signK:ByteArray:=⟨#[115,105,103,110]⟩
def sdG(M O G Y X:ByteArray)(v:Ver):Nat×Nat×Int:=sgN M O G Y X v.msg.1 [] signK 0
def sdV(M O G Y X:ByteArray)(v:Ver):Ver×Bool:=if v.msg.2=0 then(v.sigged (nS (sdG M O G Y X v).1) (nS (sdG M O G Y X v).2.1),(sdG M O G Y X v).2.2==0)else(v,false)
theorem sd_ok{M O G Y X:ByteArray}{v:Ver}(hM:M.size≤8)(h:(sdV M O G Y X v).2=true):v.msg.2=0∧∃ c r,(sdV M O G Y X v).1=v.sigged c r∧ckV M O G Y (v.sigged c r)=0∧c.size≤128∧r.size≤128∧nvalid c=true:=by
 by_cases hm:v.msg.2=0
 · unfold sdV at h⊢;rw[if_pos hm]at h⊢;have h0:(sdG M O G Y X v).2.2=0:=by simpa using h
   obtain⟨nn,hk,hs,hn,hall⟩:=sg_ok h0;have he:sdG M O G Y X v=_:=hall v.msg.1;rw[he];obtain⟨hv4,hck,hz,hgg,hy⟩:=scK_ok hk;have h8:=chk_small hv4 hM hck;have lO:=num_small h8;have lc:chS M O G Y (num G ^ nn%num M) v.msg.1<num O:=Nat.mod_lt _ (by omega);have hve:=ve_sign (nn:=nn) hM hk hs.2.2 lc v.msg.1;rw[if_pos rfl]at hve;obtain⟨q,hq⟩:∃ q,chS M O G Y (num G ^ nn%num M) v.msg.1=q:=⟨_,rfl⟩;rw[hq]at lc hve⊢;have lr:(q * num X%num O+nn)%num O<num O:=Nat.mod_lt _ (by omega);obtain⟨t,ht⟩:∃ t,(q * num X%num O+nn)%num O=t:=⟨_,rfl⟩;rw[ht]at lr hve⊢;refine⟨hm,nS q,nS t,rfl,?_,nS_size_le.2 (lt128_of_lt8 (by omega)),nS_size_le.2 (lt128_of_lt8 (by omega)),nvalid_nS.2 (lt128_of_lt8 (by omega))⟩;unfold ckV;rw[Ver.msg_sigged,if_pos hm];exact hve
 · exfalso;unfold sdV at h;rw[if_neg hm]at h;cases h
def RetSd(r:Ver×Bool)(A:Option Addr)(n c:Nat)(w:World)(e:Ending)(w':World):Prop:=e=.returned (.tuple #[.agg (r.1.arr (.slice A n c)),.bool r.2])∧Below w.heap.size w w'
theorem arr_sigged(v:Ver)(A:Option Addr)(n c:Nat)(s r:ByteArray):((v.arr (.slice A n c)).setIfInBounds 16 (.string s)).setIfInBounds 17 (.string r)=(v.sigged s r).arr (.slice A n c):=by
 unfold Ver.arr Ver.sigged;simp only[List.setIfInBounds_toArray,List.set_cons_zero,List.set_cons_succ]
theorem law58_signed(M O G Y X:ByteArray)(v:Ver)(A:Option Addr)(n c:Nat)(w:World)(hs:SlN w A n c v.kr)(hn:n≤100)(hz:SzL v.str)(hM:M.size≤8)(hO:O.size≤100)(hG:G.size≤1000)(hY:Y.size≤1000)(hX:X.size≤1000)(ht:T10 w) :
 Calls Tryz.prog 8 #[rtV M O G Y X,.agg (v.arr (.slice A n c))] w (RetSd (sdV M O G Y X v) A n c w):=by
 obtain⟨cs,hcs⟩:∃ cs,v.arr (.slice A n c)=cs:=⟨_,rfl⟩;rw[hcs];have HVA:=Hq hcs;have HCS:=Hq (show cs.size=18 from by rw[←hcs];rfl);have HCO:=Hq (show cs.all (·.oneCell')=true from by rw[←hcs];exact v.arr_one);obtain⟨W0,hW0⟩:∃ W0,((w.alloc (.cells #[.string M,.string O,.string G,.string Y,.string X] 28)).alloc (.cells cs 35)).alloc (.cells (ver0.arr (.slice none 0 0)) 35)=W0:=⟨_,rfl⟩;have hb2:Below (w.alloc (.cells #[.string M,.string O,.string G,.string Y,.string X] 28)).heap.size (w.alloc (.cells #[.string M,.string O,.string G,.string Y,.string X] 28)) W0:=by rw[←hW0];exact((Below.refl _ _).alloc (Nat.le_refl _) _).alloc (by simp) _
 have HR0:=Hq (show BxC W0 w.heap.size #[.string M,.string O,.string G,.string Y,.string X] 28 from(BxC.new w _ _).next hb2);have HX0:=Hq (show BxC W0 (w.heap.size+1) cs 35 from by rw[←hW0];exact(BxC.new1 w _ _ _).alloc _);have HY0:=Hq (show BxC W0 (w.heap.size+1+1) (ver0.arr (.slice none 0 0)) 35 from by
  rw[←hW0];have:=BxC.new ((w.alloc (.cells #[.string M,.string O,.string G,.string Y,.string X] 28)).alloc (.cells cs 35)) (ver0.arr (.slice none 0 0)) 35;simp only[World.size_alloc]at this
  exact this)
 have HB0:=Hq (show Below w.heap.size w W0 from by rw[←hW0];exact(((Below.refl _ _).alloc (Nat.le_refl _) _).alloc (by simp) _).alloc (by simp;omega) _);have HM:=Hq (show Calls Tryz.prog 18 #[.agg cs] W0 (RetSE v.msg W0)from by rw[←hcs];exact ky_Message v A n c W0 (hs.kept HB0.out (Nat.le_refl _)) hn hz);have HSG:=Hq (show ∀ W,Below w.heap.size w W→Calls Tryz.prog 19 #[.agg #[.string M,.string O,.string G,.string Y],.string X,.string v.msg.1,.agg #[.slice none 0 0,.string ⟨#[115,105,103,110]⟩,.int .i64 0]] W (RetS (sdG M O G Y X v) (tpN (sdG M O G Y X v).2.2 [] signK 0) W)from fun W hb =>
  sc_Sign M O G Y X v.msg.1 [] signK 0 none 0 0 hM hO hG hY hX v.msg_size (by omega) (fun x hx=>by cases hx) (by decide) W ⟨rfl,Nat.le_refl _,Nat.zero_le _,0,0,fun h=>absurd h (Nat.lt_irrefl _),fun k s h=>by simp at h⟩ (ht.kept hb (Nat.le_refl _)))
 obtain⟨r1,r2,hr⟩:∃ r1 r2,v.msg=(r1,r2):=⟨_,_,rfl⟩;have HSD:=Hq (show sdV M O G Y X v=if r2=0 then(v.sigged (nS (sdG M O G Y X v).1) (nS (sdG M O G Y X v).2.1),(sdG M O G Y X v).2.2==0)else(v,false)from by unfold sdV;rw[hr]);rw[hr]at HM HSG;unfold rtV;unfold ver0 Ver.arr at hW0;clear hs hcs hr hz hM hO hG hY hX ht hb2;go_enter Tryz.func8,Tryz.ntmps8;go_upto_region 1 with fail
 try rw[hW0]
 clear hW0;refine wp_region_lit ?_;refine wpList_load_row rfl 35 _ rfl (w.heap.size+1) rfl 35 cs (0,0) _ HX0.out Tryz.underlying35 rfl (by rw[HCS.out];kernel_rfl) ?_;go_wp2_with fail;refine HM.out.mono ?_;rintro e w1 ⟨rfl,hb1⟩;have HR1:=Hq (HR0.out.next hb1);have HX1:=Hq (HX0.out.next hb1);have HY1:=Hq (HY0.out.next hb1);have HB1:=Hq (HB0.out.trans (hb1.mono HB0.out.size));clear hb1 HM HR0 HX0 HY0 HB0;by_cases hz2:r2=0
 · have HS2:=Hq (show sdV M O G Y X v=(v.sigged (nS (sdG M O G Y X v).1) (nS (sdG M O G Y X v).2.1),(sdG M O G Y X v).2.2==0)from by rw[HSD.out,if_pos hz2]);subst hz2;have c0:w1.cell? ⟨w.heap.size,0,none⟩=some (.string M):=HR1.out.cell 0;have c1:w1.cell? ⟨w.heap.size,1,none⟩=some (.string O):=HR1.out.cell 1;have c2:w1.cell? ⟨w.heap.size,2,none⟩=some (.string G):=HR1.out.cell 2;have c3:w1.cell? ⟨w.heap.size,3,none⟩=some (.string Y):=HR1.out.cell 3;have c4:w1.cell? ⟨w.heap.size,4,none⟩=some (.string X):=HR1.out.cell 4;obtain⟨⟨g1,g2,g3⟩,hg⟩:∃ g,sdG M O G Y X v=g:=⟨_,rfl⟩;rw[hg]at HSG HS2;clear hg;go_upto_region 4 with fail
   go_wp2_with fail;refine(HSG.out w1 HB1.out).mono ?_;rintro e w2 ⟨At,ct,rfl,hst,hft,hb2⟩;have HX2:=Hq (HX1.out.next hb2);have HY2:=Hq (HY1.out.next hb2);have HB2:=Hq (HB1.out.trans (hb2.mono HB1.out.size));clear hb2 hst hft c0 c1 c2 c3 c4 HSG HR1 HX1 HY1 HB1;dsimp only;go_upto_region 5 with fail
   obtain⟨W3,hW3⟩:∃ W3,(w2.alloc (.cells #[.string (nS g1),.string (nS g2)] 33)).alloc (.cells #[.slice At (tpN g3 [] signK 0).1.length ct,.string (tpN g3 [] signK 0).2.1,.int .i64 (tpN g3 [] signK 0).2.2] 63)=W3:=⟨_,rfl⟩;have hb3:Below w2.heap.size w2 W3:=by rw[←hW3];exact((Below.refl _ _).alloc (Nat.le_refl _) _).alloc (by simp) _
   have hs3:BxC W3 w2.heap.size #[.string (nS g1),.string (nS g2)] 33:=by rw[←hW3];exact(BxC.new w2 _ _).alloc _
   have HX3:=Hq (show BxC W3 (w.heap.size+1) (v.arr (.slice A n c)) 35 from by rw[HVA.out];exact HX2.out.next hb3);have HY3:=Hq (HY2.out.next hb3);have HB3:=Hq (HB2.out.trans (hb3.mono HB2.out.size));have d0:W3.cell? ⟨w2.heap.size,0,none⟩=some (.string (nS g1)):=hs3.cell 0;have d1:W3.cell? ⟨w2.heap.size,1,none⟩=some (.string (nS g2)):=hs3.cell 1;rw[hW3];have x16:W3.cell? ⟨w.heap.size+1,16,none⟩=some (.string v.sc):=HX3.out.cell 16;have x17:W3.cell? ⟨w.heap.size+1,17,none⟩=some (.string v.sr):=HX3.out.cell 17;have f16:=HX3.out.free 16;have f17:=HX3.out.free 17;have HX5:=Hq ((HX3.out.set (k:=16) (.string (nS g1))).set (k:=17) (.string (nS g2)));rw[arr_sigged]at HX5;have HY5:=Hq ((HY3.out.other (C:=w.heap.size+1) (k:=16) (by omega) (.string (nS g1))).other (C:=w.heap.size+1) (k:=17) (by omega) (.string (nS g2)));have HB5:=Hq ((HB3.out.setCell (p:=⟨w.heap.size+1,16,none⟩) (by simp only[];omega) (.string (nS g1))).setCell (p:=⟨w.heap.size+1,17,none⟩) (by simp only[];omega) (.string (nS g2)));clear hW3 hb3 hs3 HX2 HY2 HB2;go_upto_region 6 with fail
   obtain⟨W5,hW5⟩:∃ W5,(W3.setCell ⟨w.heap.size+1,16,none⟩ (.string (nS g1))).setCell ⟨w.heap.size+1,17,none⟩ (.string (nS g2))=W5:=⟨_,rfl⟩;rw[hW5]at HX5 HY5 HB5⊢;clear hW5 d0 d1 x16 x17 f16 f17 HX3 HY3 HB3;obtain⟨rr,hrr⟩:∃ rr,(v.sigged (nS g1) (nS g2)).arr (.slice A n c)=rr:=⟨_,rfl⟩;have HRS:=Hq (show rr.size=18 from by rw[←hrr];rfl);have HRO:=Hq (show rr.all (·.oneCell')=true from by rw[←hrr];exact(v.sigged (nS g1) (nS g2)).arr_one);rw[hrr]at HX5;have HRR:=Hq hrr;clear hrr;refine wp_region_lit ?_;refine wpList_load_row rfl 35 _ rfl (w.heap.size+1) rfl 35 rr (0,0) _ HX5.out Tryz.underlying35 rfl (by rw[HRS.out];kernel_rfl) ?_;iterate 6 go_step
   refine wpList_store_rowTo rfl 35 _ _ rfl rfl (w.heap.size+1+1) rr rfl rfl 35 (ver0.arr (.slice none 0 0)) HY5.out (by rw[HRS.out];kernel_rfl) (by rw[HRS.out];rfl) HRO.out ?_;have HYA:=Hq (setRow_heap W5 (w.heap.size+1+1) _ rr _ _ HY5.out);have HBA:=Hq (below_setRow HB5.out (g:=w.heap.size+1+1) (by omega) rr);obtain⟨wa,hwa⟩:∃ wa,World.setRow W5 (w.heap.size+1+1) rr=wa:=⟨_,rfl⟩;rw[hwa]at HYA HBA⊢;clear hwa;go_wp2;refine bodyPost_ret (v:=.tuple #[.agg rr,.bool (g3==0)]) (Eq.trans (results_row_tmp rfl _ _ (w.heap.size+1+1) 35 rr (0,0) _ rfl HYA.out Tryz.underlying35 rfl (by rw[HRS.out];kernel_rfl)) (by rfl)) rfl ?_;exact⟨by rw[HS2.out,←HRR.out],HBA.out⟩
 · have hne:(r2 != 0)=true:=by simp[hz2]
   have HS2:=Hq (show sdV M O G Y X v=(v,false)from by rw[HSD.out,if_neg hz2]);clear hz2;go_upto_region 3 with fail
   refine wp_region_lit ?_;refine wpList_load_row rfl 35 _ rfl (w.heap.size+1) rfl 35 cs (0,0) _ HX1.out Tryz.underlying35 rfl (by rw[HCS.out];kernel_rfl) ?_;refine wpList_store_rowTo rfl 35 _ _ rfl rfl (w.heap.size+1+1) cs rfl rfl 35 (ver0.arr (.slice none 0 0)) HY1.out (by rw[HCS.out];kernel_rfl) (by rw[HCS.out];rfl) HCO.out ?_;have HYA:=Hq (setRow_heap w1 (w.heap.size+1+1) _ cs _ _ HY1.out);have HBA:=Hq (below_setRow HB1.out (g:=w.heap.size+1+1) (by omega) cs);obtain⟨wa,hwa⟩:∃ wa,World.setRow w1 (w.heap.size+1+1) cs=wa:=⟨_,rfl⟩;rw[hwa]at HYA HBA⊢;clear hwa;go_wp2;refine bodyPost_ret (v:=.tuple #[.agg cs,.bool false]) (Eq.trans (results_row_tmp rfl _ _ (w.heap.size+1+1) 35 cs (0,0) _ rfl HYA.out Tryz.underlying35 rfl (by rw[HCS.out];kernel_rfl)) (by rfl)) rfl ?_;exact⟨by rw[HS2.out,HVA.out],HBA.out⟩
theorem bestI_some{p:Ver→Bool}{l:List Ver}{j:Nat}{x:Ver}(hp:p x=true)(hx:l[j]? =some x):∀ {k:Nat},j<k→bestI p l k≠none
| 0,h=>absurd h (Nat.not_lt_zero _)
| k+1,h=>by
 by_cases e:j=k
 · subst e
   cases hb:bestI p l j with
   | none=>rw[bestI_first hb hx hp];exact fun h=>by cases h
   | some a =>
    obtain⟨ha,z,hz,_⟩:=bestI_lt hb;by_cases hn:z.num<x.num
    · rw[bestI_more hb hz hx hp hn];exact fun h=>by cases h
    · rw[bestI_less hb hz hx hp hn];exact fun h=>by cases h
 · have ih:=bestI_some hp hx (k:=k) (by omega)
   cases hb:bestI p l k with
   | none=>exact absurd hb ih
   | some a =>
    obtain⟨ha,z,hz,_⟩:=bestI_lt hb
    cases hk:l[k]? with
    | none=>rw[bestI,hk,hb];exact fun h=>by cases h
    | some y =>
     cases hy:p y with
     | false=>rw[bestI_skip hk hy,hb];exact fun h=>by cases h
     | true =>
      by_cases hn:z.num<y.num
      · rw[bestI_more hb hz hk hy hn];exact fun h=>by cases h
      · rw[bestI_less hb hz hk hy hn];exact fun h=>by cases h
theorem bestI_high{p:Ver→Bool}{l:List Ver}:∀ {k i:Nat} {u:Ver},bestI p l k=some i→l[i]? =some u→∀(j:Nat) (x:Ver),j<k→l[j]? =some x→p x=true→x.num≤u.num∧(j<i→x.num<u.num)
 | 0,i,u,h,hu,j,x,hj,hx,hp=>absurd hj (Nat.not_lt_zero _)
 | k+1,i,u,h,hu,j,x,hj,hx,hp=>by
  cases hk:l[k]? with
  | none =>
   have hl:l.length≤k:=by rw[List.getElem?_eq_none_iff]at hk;exact hk
   have:=(List.getElem?_eq_some_iff.1 hx).1;rw[bestI,hk]at h;exact bestI_high h hu j x (by omega) hx hp
  | some y =>
   cases hy:p y with
   | false =>
    rw[bestI_skip hk hy]at h;by_cases e:j=k
    · subst e;rw[hk]at hx;cases hx;rw[hp]at hy;cases hy
    · exact bestI_high h hu j x (by omega) hx hp
   | true =>
    cases hb:bestI p l k with
    | none =>
     rw[bestI_first hb hk hy]at h;cases h;rw[hk]at hu;cases hu;by_cases e:j=k
     · subst e;rw[hk]at hx;cases hx;exact⟨Int.le_refl _,fun h=>absurd h (Nat.lt_irrefl _)⟩
     · exact absurd hb (bestI_some hp hx (by omega))
    | some a =>
     obtain⟨ha,z,hz,_⟩:=bestI_lt hb;by_cases hn:z.num<y.num
     · rw[bestI_more hb hz hk hy hn]at h;cases h;rw[hk]at hu;cases hu;by_cases e:j=k
       · subst e;rw[hk]at hx;cases hx;exact⟨Int.le_refl _,fun h=>absurd h (Nat.lt_irrefl _)⟩
       · have:=(bestI_high hb hz j x (by omega) hx hp).1;exact⟨by omega,fun _=>by omega⟩
     · rw[bestI_less hb hz hk hy hn]at h;cases h;rw[hz]at hu;cases hu;by_cases e:j=k
       · subst e;rw[hk]at hx;cases hx;exact⟨by omega,fun h=>by omega⟩
       · exact bestI_high hb hz j x (by omega) hx hp
theorem find_top{l:List Ver}{name:ByteArray}{i:Nat}{u:Ver}(hi:lastI l name=some i)(hu:l[i]? =some u):findV l name u.num=some i:=by
 unfold lastI at hi;obtain⟨hl,x,hx,hp⟩:=bestI_lt hi;rw[hu]at hx;cases hx;unfold findV;rw[List.find?_range_eq_some];refine⟨?_,?_,fun j hj=>?_⟩
 · rw[hu];unfold nameP at hp;simp[hitV,hp]
 · simpa using hl
 · obtain⟨y,hy⟩:∃ y,l[j]? =some y:=⟨_,List.getElem?_eq_getElem (by omega)⟩;rw[hy];simp only[Option.any_some,Bool.not_eq_true'];unfold hitV
   cases hn:(y.name.toList==name.toList)with
   | false=>rfl
   | true =>
    have:=(bestI_high hi hu j y (by omega) hy hn).2 hj;rw[Bool.true_and];exact beq_eq_false_iff_ne.2 (by omega)
theorem findV_app{l:List Ver}{name:ByteArray}{k:Int}{i:Nat}(y:Ver)(h:findV l name k=some i):findV (l++[y]) name k=some i:=by
 unfold findV at h⊢;rw[List.find?_range_eq_some]at h⊢;obtain⟨h1,h2,h3⟩:=h;have hl:i<l.length:=by simpa using h2
 refine⟨by rw[List.getElem?_append_left hl];exact h1,by simp;omega,fun j hj=>?_⟩;rw[List.getElem?_append_left (by omega)];exact h3 j hj
theorem rotL_at{l:List Ver}{i:Nat}{u:Ver}{e:Int}(hu:l[i]? =some u)(j:Nat):∀ x,(rotL l i u e)[j]? =some x→∃ z,l[j]? =some z∧x.name=z.name∧x.num=z.num∧x.fr=z.fr∧(j≠i→x=z)∧(j=i→x.to=if e<u.to then e else u.to):=by
 intro x hx;unfold rotL at hx;by_cases he:e<u.to
 · rw[if_pos he]at hx;by_cases hj:i=j
   · subst hj;rw[List.getElem?_set_self (List.getElem?_eq_some_iff.1 hu).1]at hx;cases hx;exact⟨u,hu,rfl,rfl,rfl,fun h=>absurd rfl h,fun _=>by rw[if_pos he];rfl⟩
   · rw[List.getElem?_set_ne hj]at hx;exact⟨x,hx,rfl,rfl,rfl,fun _=>rfl,fun h=>absurd h.symm hj⟩
 · rw[if_neg he]at hx;exact⟨x,hx,rfl,rfl,rfl,fun _=>rfl,fun h=>by subst h;rw[hu]at hx;cases hx;rw[if_neg he]⟩
theorem bestV_top{p:Ver→Bool}{l:List Ver}{y:Ver}(hp:p y=true)(h:∀(j:Nat) (u:Ver),l[j]? =some u→p u=true→u.num<y.num):bestV p (l++[y])=some y:=by
 unfold bestV;rw[List.foldl_append];show stepV p (bestV p l) y=some y;unfold stepV;rw[if_pos hp,bestV_all]
 cases hb:bestI p l l.length with
 | none=>rfl
 | some i =>
  obtain⟨_,u,hu,hpu⟩:=bestI_lt hb;simp only[Option.bind_some,hu];rw[if_pos (h i u hu hpu)]
theorem ov_cur{l:List Ver}{name:ByteArray}{i:Nat}{u y:Ver}{e n:Int}(hi:lastI l name=some i)(hu:l[i]? =some u)(hn:y.name=name)(hk:y.num=u.num+1)(h1:y.fr≤n)(h2:n≤y.to):bestV (curP name n) (rotL l i u e++[y])=some y:=by
 refine bestV_top (by unfold curP vvalid;rw[hn];simp[h1,h2]) fun j x hx hp=>?_;obtain⟨z,hz,e1,e2,-⟩:=rotL_at hu j x hx;unfold curP at hp;rw[Bool.and_eq_true,e1]at hp;have hl:=(List.getElem?_eq_some_iff.1 hz).1;have:=(bestI_high hi hu j z hl hz hp.1).1;omega
theorem ov_find{l:List Ver}{name:ByteArray}{i:Nat}{u:Ver}(y:Ver){e:Int}(hi:lastI l name=some i)(hu:l[i]? =some u):∃ x,(rotL l i u e)[i]? =some x∧x.num=u.num∧x.fr=u.fr∧(x.to=if e<u.to then e else u.to)∧∀ n,findR (rotL l i u e++[y]) name u.num n=if vvalid x n=true then(x,0)else(ver0,22):=by
 have hil:=(List.getElem?_eq_some_iff.1 hu).1;have hlen:(rotL l i u e).length=l.length:=by unfold rotL;split<;>simp
 obtain⟨x,hx⟩:∃ x,(rotL l i u e)[i]? =some x:=⟨_,List.getElem?_eq_getElem (by omega)⟩;obtain⟨z,hz,e1,e2,e3,-,e5⟩:=rotL_at hu i x hx;rw[hu]at hz;cases hz;refine⟨x,hx,e2,e3,e5 rfl,fun n=>?_⟩;have hf:findV (rotL l i u e) name u.num=some i:=(by have h0:=find_top hi hu;unfold findV at h0⊢;rw[List.find?_range_eq_some]at h0⊢;obtain⟨a1,a2,a3⟩:=h0;have hh:∀(j:Nat),j<l.length→((rotL l i u e)[j]?).any (hitV name u.num)=(l[j]?).any (hitV name u.num):=(by intro j hj;obtain⟨b,hb⟩:∃ b,(rotL l i u e)[j]? =some b:=⟨_,List.getElem?_eq_getElem (by omega)⟩;obtain⟨z,hz,f1,f2,-⟩:=rotL_at hu j b hb;rw[hb,hz];simp only[Option.any_some];unfold hitV;rw[f1,f2]);refine⟨by rw[hh i hil];exact a1,by simp;omega,fun j hj=>by rw[hh j (by omega)];exact a3 j hj⟩);unfold findR;rw[findV_app y hf];simp only[List.getElem?_append_left (show i<(rotL l i u e).length by omega),hx]
set_option maxRecDepth 100000
set_option maxHeartbeats 2000000
def addL(l:List Ver)(v:Ver):List Ver×Int:=match lastI l v.name with
 | none=>if v.num≠1 then([],22)else(l++[v],0)
 | some i=>match l[i]? with
  | none=>([],22)
  | some u=>if v.num - 1≠u.num then([],22)else if v.fr≤u.fr∨u.to<v.fr - 1 then([],21)else(l++[v],0)
def addR(ck:Int)(l:List Ver)(v:Ver):List Ver×Int:=
 if ck≠0 then([],ck)else if 4096≤l.length then([],6)else if l.any (hitV v.name v.num)=true then([],8)else addL l v
theorem ky_add1(cs:Array Value)(nm:ByteArray)(k:Int)(h0:cs[0]? =some (.string nm))(h1:cs[1]? =some (.int .i64 k))(name:ByteArray)(num:Int)(N:Nat)(w:World)(hN:w.cell? ⟨N,0,none⟩=some (.string name))(hF:w.cell? ⟨N,1,none⟩=some (.int .i64 num)):Calls Tryz.prog 22 #[.agg cs,.pointer (some ⟨N,0,none⟩)] w (Ret (.bool ((nm.toList==name.toList)&&(k==num))) w):=by
 have kN:=cell_kept ((Below.refl w.heap.size w).alloc (Nat.le_refl _) (.cells cs 35)) (Nat.le_refl _) hN;have kF:=cell_kept ((Below.refl w.heap.size w).alloc (Nat.le_refl _) (.cells cs 35)) (Nat.le_refl _) hF;clear hN hF
 cases hq:(nm.toList==name.toList)with
 | true =>
  go_enter Tryz.func22,Tryz.ntmps22;go_wp2;go_ret;exact⟨rfl,(Below.refl _ _).alloc (Nat.le_refl _) _⟩
 | false =>
  go_enter Tryz.func22,Tryz.ntmps22;go_wp2;go_ret;exact⟨rfl,(Below.refl _ _).alloc (Nat.le_refl _) _⟩
theorem sl_IndexFuncA(l:List Ver)(A:Option Addr)(len cap:Nat)(name:ByteArray)(num:Int)(N:Nat)(w:World)(hs:SlV w A len cap l)(hlen:len≤4096)(hN:w.cell? ⟨N,0,none⟩=some (.string name))(hF:w.cell? ⟨N,1,none⟩=some (.int .i64 num)) :
 Calls Tryz.prog 27 #[.slice A len cap,.func (.func 22) #[] #[.pointer (some ⟨N,0,none⟩)]] w (Ret (.int .i64 (idxV l name num)) w):=by
 have HS:=Hq hs;have HN:=Hq hN;have HF:=Hq hF;have HLEN:=Hq hs.1;have hcap:=hs.2.1;have hcap2:=hs.2.2.1;clear hs hN hF;go_enter Tryz.func27,Tryz.ntmps27;go_wp2;go_loopw [8] (fun k wr=>∃ j:Nat,j≤len∧k=.int .i64 j∧(∀(i:Nat) u,i<j→l[i]? =some u→hitV name num u=false)∧Below w.heap.size w wr) (fun k _=>len - (intOf k).toNat);case atStart=>exact⟨0,Nat.zero_le _,rfl,fun i u h=>absurd h (Nat.not_lt_zero _),Below.refl _ _⟩
 case round =>
  obtain⟨j,hj,rfl,hall,hB⟩:=hrel;have HALL:=Hq hall;have HB:=Hq hB;clear hall hB;by_cases hlt:j<len
  · obtain⟨b,o,rfl⟩:=HS.out.head (by omega);obtain⟨v,he⟩:∃ v,l[j]? =some v:=⟨_,List.getElem?_eq_getElem (by rw[HLEN.out];exact hlt)⟩;obtain⟨A1,n1,c1,hvc,_⟩:=(HS.out.kept HB.out (Nat.le_refl _)).get? j he;have HE:=Hq he;have hra:wr.rangeAt b (o+j * 18) (v.vals (.slice A1 n1 c1)):=hvc;have hsz:(Tryz.prog.info? 35).map (·.size)=some (v.vals (.slice A1 n1 c1)).length:=by kernel_rfl
    have HC:=Hq (ky_add1 (v.vals (.slice A1 n1 c1)).toArray v.name v.num rfl rfl name num N wr (cell_kept HB.out (Nat.le_refl _) HN.out) (cell_kept HB.out (Nat.le_refl _) HF.out));obtain⟨cs,hcs⟩:∃ cs,v.vals (.slice A1 n1 c1)=cs:=⟨_,rfl⟩;rw[hcs]at hra hsz HC;have HRA:=Hq hra;have HSZ:=Hq hsz;clear hvc he hcs hra hsz;go_upto_region 4 with fail
    refine wp_region_lit ?_;iterate 13 go_step
    refine wp_load_mid 35 _ rfl b (o+j * 18) rfl cs _ HRA.out Tryz.underlying35 rfl HSZ.out ?_;go_wp2_with fail;refine HC.out.mono ?_;rintro e w1 ⟨rfl,hb1⟩;have HB1:=Hq (HB.out.trans (hb1.mono HB.out.size));clear hb1
    cases hh:((v.name.toList==name.toList)&&(v.num==num))with
    | true =>
     have HI:=Hq (show idxV l name num=(j:Int)from by unfold idxV;rw[findV_some HE.out hh HALL.out]);clear hh;go_wp2;go_ret;exact⟨by rw[HI.out];rfl,HB1.out⟩
    | false =>
     have HA2:=Hq (show ∀(i:Nat) u,i<j+1→l[i]? =some u→hitV name num u=false from fun i u hi hu=>by
      rcases Nat.lt_or_ge i j with a | a
      · exact HALL.out i u a hu
      · obtain rfl:i=j:=by omega
        rw[HE.out]at hu;cases hu
        exact hh)
     clear hh;go_wp2;go_roundw;case rel=>exact⟨j+1,by omega,by go_num,HA2.out,HB1.out⟩
     case measure=>simp[intOf];omega
  · obtain rfl:j=len:=by omega
    have HI:=Hq (show idxV l name num = -1 from by unfold idxV;rw[findV_none (fun i u hu=>HALL.out i u (by have:=(List.getElem?_eq_some_iff.1 hu).1;have:=HLEN.out;omega) hu)]);clear hlt hj;go_wp2;go_ret;exact⟨by rw[HI.out];rfl,HB.out⟩
theorem findV_any{l:List Ver}{name:ByteArray}{num:Int}:(findV l name num).isSome=l.any (hitV name num):=by
 unfold findV;rw[Bool.eq_iff_iff,List.find?_isSome,List.any_eq_true];constructor
 · rintro⟨i,hi,h⟩;have hl:=List.mem_range.1 hi;rw[List.getElem?_eq_getElem hl]at h;exact⟨_,List.getElem_mem hl,h⟩
 · rintro⟨x,hx,h⟩;obtain⟨i,hi⟩:=List.getElem?_of_mem hx;exact⟨i,List.mem_range.2 (List.getElem?_eq_some_iff.1 hi).1,by rw[hi];exact h⟩
theorem sl_ContainsA(l:List Ver)(A:Option Addr)(len cap:Nat)(name:ByteArray)(num:Int)(N:Nat)(w:World)(hs:SlV w A len cap l)(hlen:len≤4096)(hN:w.cell? ⟨N,0,none⟩=some (.string name))(hF:w.cell? ⟨N,1,none⟩=some (.int .i64 num)) :
 Calls Tryz.prog 21 #[.slice A len cap,.func (.func 22) #[] #[.pointer (some ⟨N,0,none⟩)]] w (Ret (.bool (l.any (hitV name num))) w):=by
 have HI:=Hq (sl_IndexFuncA l A len cap name num N w hs hlen hN hF);clear hs hN hF;have hc:decide (idxV l name num≥0)=l.any (hitV name num):=by
  rw[←findV_any];unfold idxV
  cases h:findV l name num with
  | none=>rfl
  | some k=>simp
 go_enter Tryz.func21,Tryz.ntmps21;go_wp2_with fail;refine HI.out.mono ?_;rintro e w1 ⟨rfl,hb⟩;go_wp2;go_ret;exact⟨by rw[←hc];rfl,hb⟩
theorem bestI_rot{p:Ver→Bool}{l m:List Ver}(hlen:m.length=l.length)(h:∀(j:Nat) (x:Ver),m[j]? =some x→∃ z,l[j]? =some z∧p x=p z∧x.num=z.num):∀ k,bestI p m k=bestI p l k
 | 0=>rfl
 | k+1=>by
  have ih:=bestI_rot hlen h k
  cases hk:m[k]? with
  | none =>
   have : l[k]? =none:=by rw[List.getElem?_eq_none_iff]at hk⊢;omega
   rw[bestI,bestI,hk,this];exact ih
  | some x =>
   obtain⟨z,hz,hp,hn⟩:=h k x hk
   cases hx:p x with
   | false=>rw[bestI_skip hk hx,bestI_skip hz (by rw[←hp];exact hx),ih]
   | true =>
    have hpz:p z=true:=by rw[←hp];exact hx
    cases hb:bestI p m k with
    | none=>rw[bestI_first hb hk hx,bestI_first (by rw[←ih];exact hb) hz hpz]
    | some a =>
     obtain⟨_,y,hy,_⟩:=bestI_lt hb;obtain⟨t,ht,_,hnt⟩:=h a y hy;have hb':bestI p l k=some a:=by rw[←ih];exact hb
     by_cases hlt:y.num<x.num
     · rw[bestI_more hb hy hk hx hlt,bestI_more hb' ht hz hpz (by omega)]
     · rw[bestI_less hb hy hk hx hlt,bestI_less hb' ht hz hpz (by omega)]
theorem ov_add{l:List Ver}{name:ByteArray}{i:Nat}{u y:Ver}{o:Int}(hl:l.length≤100)(hi:lastI l name=some i)(hu:l[i]? =some u)(hn:y.name=name)(hk:y.num=u.num+1)(h1:u.fr<y.fr)(h2:y.fr - 1≤u.to)(ho:0≤o):addR 0 (rotL l i u (y.fr+o - 1)) y=(rotL l i u (y.fr+o - 1)++[y],0):=by
 have hlen:(rotL l i u (y.fr+o - 1)).length=l.length:=by unfold rotL;split<;>simp
 have hil:=(List.getElem?_eq_some_iff.1 hu).1;have hany:(rotL l i u (y.fr+o - 1)).any (hitV y.name y.num)=false:=(by rw[List.any_eq_false];intro x hx;obtain⟨k,hk2⟩:=List.mem_iff_getElem?.1 hx;obtain⟨z,hz,e1,e2,-⟩:=rotL_at hu k x hk2;have hzl:=(List.getElem?_eq_some_iff.1 hz).1;unfold hitV;rw[Bool.and_eq_true,not_and];intro a1 a2;have a2:=eq_of_beq a2;rw[e1,hn]at a1;have:=(bestI_high hi hu k z hzl hz a1).1;omega);have hlast:lastI (rotL l i u (y.fr+o - 1)) y.name=some i:=by
  rw[hn];unfold lastI at hi⊢;rw[hlen,bestI_rot hlen (fun j x hx=>by
   obtain⟨z,hz,e1,e2,-⟩:=rotL_at hu j x hx
   exact⟨z,hz,by unfold nameP;rw[e1],e2⟩)]
  exact hi
 obtain⟨x,hx⟩:∃ x,(rotL l i u (y.fr+o - 1))[i]? =some x:=⟨_,List.getElem?_eq_getElem (by omega)⟩;obtain⟨z,hz,e1,e2,e3,-,e5⟩:=rotL_at hu i x hx;rw[hu]at hz;cases hz;have e5:=e5 rfl;unfold addR;rw[if_neg (by simp),if_neg (by omega),if_neg (by rw[hany];decide)];unfold addL;rw[hlast];simp only[hx];rw[if_neg (by omega),if_neg (by split at e5<;>omega)]
end Go.Proofs.YtamhonjkgkmdbaaGreatDoor

import Derived.Test.YtkfgdcgmlobhfaaGreatQPeM
set_option linter.unusedVariables false
set_option linter.unusedSimpArgs false
namespace Go.Proofs.YtkfgdcgmlobhfaaGreat
set_option maxRecDepth 100000
set_option maxHeartbeats 2000000
open Go.RowKit
theorem zkl(w:World)(a m:ByteArray)(n:Nat)(hn:n=w.heap.size)(ha:zd a=true)(hm:zd m=true)(h0:m.toList.isEmpty=false) :
 Calls Tryz.prog 138 #[.slice (some ⟨n,0,none⟩) 2 2] (w.alloc (.cells #[.string a,.string m] 22)) (RetQ (.int .i64 0) (w.alloc (.cells #[.string a,.string m] 22))):=by
 subst hn;have h2:=xv w [a,m] 22 (by simp);refine zg5 [a,m] _ 2 2 _ h2 (by omega) (by omega) ?_ ?_
 · intro k s hk;have:=List.mem_of_getElem? hk;simp only[List.mem_cons,List.mem_nil_iff,or_false]at this;rcases this with rfl | rfl
   · exact ha
   · exact hm
 · intro s hk;simp only[List.getElem?_cons_succ,List.getElem?_cons_zero,Option.some.injEq]at hk;rw[←hk];exact h0
theorem zia(a m:Nat)(ham:a<m)(hm8:m<18446744073709551616)(h1:1<m)(hg:Nat.gcd a m=1)(w:World):Calls Tryz.prog 186 #[.string (nS a),.string (nS m)] w (Ret (.tuple #[.string (nS (invN a m)),.int .i64 0]) w):=by
 have ha8:a<18446744073709551616:=by omega
 have HC:=Hq (fun w=>zkl w (nS a) (nS m) _ rfl (zz ha8) (zz hm8) (zy (by omega)));have HR:=Hq (zdr a m (zm ha8) (zm hm8) (by omega));rw[Nat.mod_eq_of_lt ham]at HR;have HE:=Hq (zg6 a m ham hm8 h1 hg);have HO1:=Hq (zav 1 (by decide));have HRX:=Hq (fun x (hx:x<m) (hi:a * x%m=1) (w:World)=>show Calls Tryz.prog 209 #[intV (x:Nat),.string (nS m)] w (Ret (.tuple #[.string (nS (invN a m)),.int .i64 0]) w)from by
  have:=zqd (x:Nat) m (by rw[Int.natAbs_natCast];exact zm (by omega)) (zm hm8) (by omega) w;rw[←Int.natCast_emod,Int.toNat_natCast,Nat.mod_eq_of_lt hx]at this;rw[zin hx hi]
  exact this)
 obtain⟨s,hs⟩:∃ s,nS a=s:=⟨_,rfl⟩;obtain⟨t,ht⟩:∃ t,nS m=t:=⟨_,rfl⟩;obtain⟨v,hv⟩:∃ v,nS (invN a m)=v:=⟨_,rfl⟩;obtain⟨one,hone⟩:∃ v,nS 1=v:=⟨_,rfl⟩;have HONE:=Hq hone;have HO1:=Hq (fun w=>show Calls Tryz.prog 66 #[.int .u64 1] w (Ret (.string one) w)from by have:=HO1.out w;rw[show bstr (encN 1)=one from hone]at this;exact this);rw[hs,ht]at HC HR HE;rw[ht,hv]at HRX;rw[hs,ht,hv];clear hs ht hv hone ham hm8 h1 hg ha8;go_enter Tryz.func186,Tryz.ntmps186;go_wp2_with fail;refine(HC.out w).mono ?_;rintro e w1 ⟨rfl,rfl⟩;have HB1:=Hq ((Below.refl w.heap.size w).alloc nlr (.cells #[.string s,.string t] 22));go_wp2_with fail;refine(HR.out _).mono ?_;rintro e w2 ⟨rfl,hb2⟩;have HB2:=Hq (HB1.out.trans (hb2.mono HB1.out.size));clear hb2;go_wp2_with fail;refine(HE.out _).mono ?_;rintro e w3 ⟨x,y,rfl,hb3,hxm,hax⟩;have HB3:=Hq (HB2.out.trans (hb3.mono HB2.out.size));have HXX:=Hq (HRX.out x hxm hax);rw[zce]at HXX⊢;rw[HONE.out];unfold intV zV;obtain⟨u,hu⟩:∃ u,nS x=u:=⟨_,rfl⟩;rw[hu]at HXX⊢;obtain⟨yb,hyb⟩:∃ u,decide (y<0)=u:=⟨_,rfl⟩;obtain⟨ys,hys⟩:∃ u,nS y.natAbs=u:=⟨_,rfl⟩;rw[hyb,hys];clear hb3 hxm hax hu hyb hys;obtain⟨hx3,hy3,hb3⟩:=zj1 w3 (.bool false) (.string u) (.bool yb) (.string ys) 78;obtain⟨W3,hW3⟩:∃ W3,(w3.alloc (.cells #[.bool false,.string u] 78)).alloc (.cells #[.bool yb,.string ys] 78)=W3:=⟨_,rfl⟩;rw[hW3]at hx3 hb3;have HX3:=Hq hx3;have HB4:=Hq (HB3.out.trans (hb3.mono HB3.out.size));clear hx3 hy3 hb3;go_wp2_with fail;try rw[hW3]
 clear hW3;refine(HO1.out _).mono ?_;rintro e w4 ⟨rfl,hb4⟩;have HB5:=Hq (HB4.out.trans (hb4.mono HB4.out.size));have hx4:=HX3.out.next hb4;have c0:=hx4.c0;have c1:=hx4.c1;clear hb4 hx4;go_wp2_with fail;refine(HXX.out _).mono ?_;rintro e w5 ⟨rfl,hb5⟩;have HB6:=Hq (HB5.out.trans (hb5.mono HB5.out.size));clear hb5;go_wp2;go_ret2;exact⟨rfl,HB6.out⟩
theorem zlr(a m:Nat)(zb:Bool)(zt:ByteArray)(ham:a<m)(hm8:m<18446744073709551616)(h1:1<m)(hg:Nat.gcd a m=1)(hz:jz zb zt=true)(w:World):Calls Tryz.prog 137 #[.string (nS a),zV zb zt,.string (nS m)] w (Ret (.tuple #[.string (nS (pwN a zb (num zt) m)),.int .i64 0]) w):=by
 have ha8:a<18446744073709551616:=by omega
 have hzv:=zgt hz;have HV1:=Hq (zu (nS a) (by have:=zo ha8;omega));have HV2:=Hq (zu (nS m) (by have:=zo hm8;omega));rw[zj.2 (zm ha8)]at HV1;rw[zj.2 (zm hm8)]at HV2;have HVZ:=Hq (zds zb zt (by unfold zd at hzv;simp at hzv;omega));rw[hz]at HVZ;have hem:=zy (n:=m) (by omega);have HI:=Hq (zia a m ham hm8 h1 hg);have HRA:=Hq (fun b (hb:b<m) (w:World)=>show Calls Tryz.prog 187 #[.string (nS b),.string zt,.string (nS m)] w (Ret (.string (nS (b ^ num zt%m))) w)from by
  have:=zg4 b (num zt) m (zm (by omega)) (kf hzv) hm8 (by omega) w
  rwa[←jm hzv]at this)
 have HB0:=Hq ((Below.refl w.heap.size w).alloc nlr (.cells #[.bool zb,.string zt] 78));have hx0:=Bx2.new w (.bool zb) (.string zt) 78;obtain⟨W0,hW0⟩:∃ W,w.alloc (.cells #[.bool zb,.string zt] 78)=W:=⟨_,rfl⟩;rw[hW0]at HB0 hx0;have HX0:=Hq hx0;obtain⟨s,hs⟩:∃ s,nS a=s:=⟨_,rfl⟩;obtain⟨t,ht⟩:∃ t,nS m=t:=⟨_,rfl⟩;unfold zV at *
 cases zb with
 | false =>
  have HR:=Hq (HRA.out a ham);rw[show pwN a false (num zt) m=a ^ num zt%m from rfl];obtain⟨r,hr⟩:∃ r,nS (a ^ num zt%m)=r:=⟨_,rfl⟩;rw[hr,hs,ht]at HR;rw[hs]at HV1;rw[ht]at HV2 hem;rw[hr,hs,ht];clear hs ht hr HRA HI ham hm8 h1 hg hz hzv ha8 hx0;go_enter Tryz.func137,Tryz.ntmps137;go_wp2_with fail;try rw[hW0]
  clear hW0;refine(HV1.out _).mono ?_;rintro e w1 ⟨rfl,rfl⟩;have c0:=HX0.out.c0;have c1:=HX0.out.c1;go_wp2_with fail;refine(HVZ.out _).mono ?_;rintro e w1 ⟨rfl,hb1⟩;have HB1:=Hq (HB0.out.trans (hb1.mono HB0.out.size));have hx1:=HX0.out.next hb1;clear hb1 c0 c1;have c0:=hx1.c0;have c1:=hx1.c1;clear hx1;go_wp2_with fail;refine(HV2.out _).mono ?_;rintro e w2 ⟨rfl,rfl⟩;go_wp2_with fail;refine(HR.out _).mono ?_;rintro e w2 ⟨rfl,hb2⟩;have HB2:=Hq (HB1.out.trans (hb2.mono HB1.out.size));clear hb2;go_wp2;go_ret2;exact⟨rfl,HB2.out⟩
 | true =>
  have HR:=Hq (HRA.out (invN a m) (zmk (by omega)));rw[show pwN a true (num zt) m=invN a m ^ num zt%m from rfl];obtain⟨r,hr⟩:∃ r,nS (invN a m ^ num zt%m)=r:=⟨_,rfl⟩;obtain⟨v,hv⟩:∃ r,nS (invN a m)=r:=⟨_,rfl⟩;rw[hr,hv,ht]at HR;rw[hs,ht,hv]at HI;rw[hs]at HV1;rw[ht]at HV2 hem;rw[hr,hs,ht];clear hs ht hr hv HRA ham hm8 h1 hg hz hzv ha8 hx0;go_enter Tryz.func137,Tryz.ntmps137;go_wp2_with fail;try rw[hW0]
  clear hW0;refine(HV1.out _).mono ?_;rintro e w1 ⟨rfl,rfl⟩;have c0:=HX0.out.c0;have c1:=HX0.out.c1;go_wp2_with fail;refine(HVZ.out _).mono ?_;rintro e w1 ⟨rfl,hb1⟩;have HB1:=Hq (HB0.out.trans (hb1.mono HB0.out.size));have hx1:=HX0.out.next hb1;have HX1:=Hq hx1;clear hb1 c0 c1;have c0:=hx1.c0;have c1:=hx1.c1;clear hx1;go_wp2_with fail;refine(HV2.out _).mono ?_;rintro e w2 ⟨rfl,rfl⟩;go_wp2_with fail;refine(HI.out _).mono ?_;rintro e w2 ⟨rfl,hb2⟩;have HB2:=Hq (HB1.out.trans (hb2.mono HB1.out.size));have hx2:=HX1.out.next hb2;clear hb2 c0 c1;have c0:=hx2.c0;have c1:=hx2.c1;clear hx2;go_wp2_with fail;refine(HR.out _).mono ?_;rintro e w3 ⟨rfl,hb3⟩;have HB3:=Hq (HB2.out.trans (hb3.mono HB2.out.size));clear hb3;go_wp2;go_ret2;exact⟨rfl,HB3.out⟩
theorem zp4(a m:Nat)(O:ByteArray)(zb:Bool)(zt:ByteArray)(ham:a<m)(hm8:m<18446744073709551616)(h1:1<m)(hg:Nat.gcd a m=1)(hz:jz zb zt=true)(w:World):Calls Tryz.prog 83 #[gV (nS m) O,.string (nS a),zV zb zt] w (Ret (.string (nS (pwN a zb (num zt) m))) w):=by
 have HP:=Hq (zlr a m zb zt ham hm8 h1 hg hz);obtain⟨s,hs⟩:∃ s,nS a=s:=⟨_,rfl⟩;obtain⟨t,ht⟩:∃ t,nS m=t:=⟨_,rfl⟩;obtain⟨r,hr⟩:∃ t,nS (pwN a zb (num zt) m)=t:=⟨_,rfl⟩;rw[hs,ht,hr]at HP;rw[hs,ht,hr];clear hs ht hr ham hm8 h1 hg hz;unfold gV;unfold zV at *;have HB0:=Hq (((Below.refl w.heap.size w).alloc nlr (.cells #[.string t,.string O] 24)).alloc (by simp) (.cells #[.bool zb,.string zt] 78));go_enter Tryz.func83,Tryz.ntmps83;go_wp2_with fail;refine(HP.out _).mono ?_;rintro e w1 ⟨rfl,hb1⟩;have HB1:=Hq (HB0.out.trans (hb1.mono HB0.out.size));clear hb1;go_wp2;go_ret;exact⟨rfl,HB1.out⟩
theorem zqj{M O:ByteArray}{l:List ByteArray}{zs:List (Bool×ByteArray)}{c:Int}(h:ckR M O l zs (decide (l.length=zs.length))=c)(hc:c≠0):prR M O l zs=.tuple #[.string ⟨#[]⟩,.int .i64 c]:=by
 unfold prR;rw[if_neg (by rw[h];exact hc),h]
theorem zol{z:Int}(h:¬ (z.natAbs<256 ^ 128)):∃(b:Bool) (s:ByteArray),fitZ z=.tuple #[.agg #[.bool b,.string s],.int .i64 5]:=by unfold fitZ;rw[if_neg h];exact⟨_,_,rfl⟩
theorem zcn{z:Int}(h:z.natAbs<256 ^ 128):jz (decide (z<0)) (nS z.natAbs)=true:=by
 unfold jz;rw[zj.2 h,Bool.true_and];by_cases hz:z<0
 · rw[zy (by omega),Bool.and_false];rfl
 · rw[decide_eq_false hz];rfl
def mlR(M O a b:ByteArray):Value:=
 if ckR M O [a,b] [] true=0 then .tuple #[.string (nS (num a * num b%num M)),.int .i64 0]else .tuple #[.string ⟨#[]⟩,.int .i64 (ckR M O [a,b] [] true)]
end Go.Proofs.YtkfgdcgmlobhfaaGreat

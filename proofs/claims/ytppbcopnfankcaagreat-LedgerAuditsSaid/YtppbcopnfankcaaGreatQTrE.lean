import Derived.Test.YtppbcopnfankcaaGreatQShH
set_option linter.unusedVariables false
set_option linter.unusedSimpArgs false
namespace Go.Proofs.YtppbcopnfankcaaGreat
set_option maxRecDepth 100000
set_option maxHeartbeats 2000000
open Go.RowKit Go.Lib
def RowV8(w:World)(g c:Nat)(f:Nat→BitVec 32):Prop:=∃ cur:Array Value,w.heap[g]? =some (.cells cur 131 (0,0))∧cur.size=c∧8≤c∧c≤9223372036854775807∧∀ j,j<8→cur[j]? =some (.int .u32 (wi (f j)))
theorem RowV8.cell{w:World}{g c:Nat}{f:Nat→BitVec 32}(h:RowV8 w g c f){k:Nat}(hk:k<8):w.cell? ⟨g,k,none⟩=some (.int .u32 (wi (f k))):=by
 obtain⟨cur,h1,_,_,_,h2⟩:=h;rw[Lib.cell_of_heap h1];exact h2 k hk
theorem RowV8.free{w:World}{g c:Nat}{f:Nat→BitVec 32}(h:RowV8 w g c f)(k:Nat):w.frozen? ⟨g,k,none⟩=false:=by
 obtain⟨cur,h1,_⟩:=h;exact Lib.frozen_of_heap h1 k
theorem RowV8.kept{w w':World}{K g c:Nat}{f:Nat→BitVec 32}(h:RowV8 w g c f)(hb:Below K w w')(hB:g<K):RowV8 w' g c f:=by
 obtain⟨cur,h1,h2⟩:=h;exact⟨cur,(hb.block g hB).trans h1,h2⟩
theorem RowV8.drew{w:World}{g c:Nat}{f:Nat→BitVec 32}(h:RowV8 w g c f):RowV8 w.drew g c f:=h
theorem RowV8.lt{w:World}{g c:Nat}{f:Nat→BitVec 32}(h:RowV8 w g c f):g<w.heap.size:=by
 obtain⟨cur,h1,_⟩:=h;exact zn h1
theorem RowV8.congr{w:World}{g c:Nat}{f f':Nat→BitVec 32}(h:RowV8 w g c f)(hf:∀ j,j<8→f j=f' j):RowV8 w g c f':=by
 obtain⟨cur,h1,h2,h3,h4,h5⟩:=h;exact⟨cur,h1,h2,h3,h4,fun j hj=>by rw[h5 j hj,hf j hj]⟩
theorem RowV8.set{w:World}{g c:Nat}{f:Nat→BitVec 32}(h:RowV8 w g c f)(k:Nat)(x:BitVec 32):RowV8 (w.setCell ⟨g,k,none⟩ (.int .u32 (wi x))) g c (fun j=>if j=k then x else f j):=by
 obtain⟨cur,h1,h2,h3,h4,h5⟩:=h;refine⟨_,zl h1 _,by rw[Array.size_setIfInBounds,h2],h3,h4,fun j hj=>?_⟩;rw[Array.getElem?_setIfInBounds];simp only[];by_cases e:k=j
 · subst e;rw[if_pos rfl,if_pos (by omega),if_pos rfl]
 · rw[if_neg e,if_neg (Ne.symm e)];exact h5 j hj
theorem RowV8.of{w:World}{g:Nat}{f:Nat→BitVec 32}(h:RowW w g 8 131 f):RowV8 w g 8 f:=⟨_,h,xt _ _,Nat.le_refl _,by omega,fun j hj=>zeq f hj⟩
theorem RowV8.c8{w:World}{B c':Nat}{a b c d e f g h:BitVec 32}(H:RowV8 w B c' (W8.at ⟨a,b,c,d,e,f,g,h⟩)):w.cell? ⟨B,0,none⟩=some (.int .u32 (wi a))∧w.cell? ⟨B,1,none⟩=some (.int .u32 (wi b))∧w.cell? ⟨B,2,none⟩=some (.int .u32 (wi c))∧w.cell? ⟨B,3,none⟩=some (.int .u32 (wi d))∧w.cell? ⟨B,4,none⟩=some (.int .u32 (wi e))∧w.cell? ⟨B,5,none⟩=some (.int .u32 (wi f))∧w.cell? ⟨B,6,none⟩=some (.int .u32 (wi g))∧w.cell? ⟨B,7,none⟩=some (.int .u32 (wi h)):=
 ⟨H.cell (k:=0) (by decide),H.cell (k:=1) (by decide),H.cell (k:=2) (by decide),H.cell (k:=3) (by decide),H.cell (k:=4) (by decide),H.cell (k:=5) (by decide),H.cell (k:=6) (by decide),H.cell (k:=7) (by decide)⟩
theorem zb6(w0:World){ops:Array Oper}{rest:List Oper}{o:Oper}{a:Act}{Q:Exit→Act→World→Prop}(hg:o.guard=none)(s x:Operand)(hop:o.op=Op.call { callee:=Callee.builtin Builtin.append,args:=#[s,x],argTypes:=#[148,148] })
 (hs:a.eval s=.slice (some ⟨w0.heap.size,0,none⟩) 0 0) (b c:Nat) (S:W8) (hx:a.eval x=.slice (some ⟨b,0,none⟩) 8 c) (hv:RowV8 w0 b c S.at)
 (hK:∀ g c' w',RowV8 w' g c' S.at→w0.heap.size≤g→Below w0.heap.size w0 w'→wpList Tryz.prog ops Q rest (a.put o.dst (.slice (some ⟨g,0,none⟩) 8 c')) w'):wpList Tryz.prog ops Q (o::rest) a (w0.alloc (.cells #[] 131)):=by
 obtain⟨i0,hi,hz0,hz1,hz2⟩:=info_parts zj2;have hml:maxLen=9223372036854775807:=rfl;refine wpList_append_lies (w0.alloc (.cells #[] 131)) hg s x 148 hop w0.heap.size 131 i0 (.int .u32 0) 1 4 Tryz.underlying148 hi hz0 hz1 hz2 rfl (by decide) _ 0 [] hs (World.ownsRow_made w0 #[] 0 nlr (by omega) rfl) ⟨b,0,none⟩ 8 c S.arr.toList hx rfl (fun j u hj=>?_) (by have:=W8.arr_one S;rw[Array.all_eq_true']at this;intro u hu;exact this u (by simpa using hu)) (by decide) (by omega) (by omega) (by simp) _ rfl (fun g cap w' h1 h2 h3 h4=>hK g cap w' ?_ ?_ ?_)
 · have hj8:j<8:=(List.getElem?_eq_some_iff.1 hj).1;rw[Addr.add_lit,Nat.zero_add];have:=(hv.kept ((blr).alloc nlr (.cells #[] 131)) hv.lt).cell hj8;rw[this,←hj];have e:S.arr.toList[j]? =(wa 8 S.at)[j]?:=by rw[←W8.arr_wa];simp
   rw[e,zeq _ hj8]
 · rcases h1.2 with⟨h,_⟩ | ⟨g',cap',cur,hv',hb',hg',q1,q2,q3,q4⟩
   · cases h
   · cases hv';refine⟨cur,hg',by omega,by omega,by omega,fun j hj=>?_⟩;have:=congrArg (fun l=>l[j]?) q4;simp only[List.nil_append]at this;rw[List.getElem?_take,if_pos (by omega),Array.getElem?_toList]at this;rw[this];have e:S.arr.toList[j]? =(wa 8 S.at)[j]?:=by rw[←W8.arr_wa];simp
     rw[e,zeq _ hj]
 · exact(h1.lt g rfl).1
 · exact((blr).alloc nlr _).trans ⟨h2.os,h2.tape,h2.output,h2.size,fun k hk=>h2.block k (by have:=World.size_alloc w0 (.cells #[] 131);omega) (fun e=>by have : k=w0.heap.size:=Option.some.inj e;omega)⟩
theorem zwd(e f g h k w:BitVec 32):((((wi h+bits .xor .u32 (bits .xor .u32 (wi (rr e 6)) (wi (rr e 11))) (wi (rr e 25)))%4294967296+bits .xor .u32 (bits .and .u32 (wi e) (wi f)) (bits .and .u32 (bits .xor .u32 IntKind.u32.max (wi e)) (wi g)))%4294967296+wi k)%4294967296+wi w)%4294967296 =
 wi (h+(rr e 6 ^^^ rr e 11 ^^^ rr e 25)+(e &&& f ^^^ ~~~ e &&& g)+k+w):=by
 rw[zqq,zvk,xz,xz,zep,zep,xz,ks,ks,ks,ks]
theorem zx9(t a b c:BitVec 32):(wi t+(bits .xor .u32 (bits .xor .u32 (wi (rr a 2)) (wi (rr a 13))) (wi (rr a 22))+bits .xor .u32 (bits .xor .u32 (bits .and .u32 (wi a) (wi b)) (bits .and .u32 (wi a) (wi c))) (bits .and .u32 (wi b) (wi c))))%4294967296 =
 wi (t+((rr a 2 ^^^ rr a 13 ^^^ rr a 22)+(a &&& b ^^^ a &&& c ^^^ b &&& c))):=by
 rw[←ks,←zvm];omega
theorem RowV8.new(w:World)(S:W8):RowV8 (w.alloc (.cells S.arr 131)) w.heap.size 8 S.at:=RowV8.of (by unfold RowW;rw[←W8.arr_wa];exact heap_alloc_new _ _)
theorem zda{a w w':World}{B:Nat}(h:Below B a w)(hB:B≤w.heap.size)(hb:Below w.heap.size w w'):Below B a w':=h.trans (hb.mono hB)
theorem zkp(S:W8)(s:ByteArray)(hs:s.size=64)(b c:Nat)(w:World)(hv:RowV8 w b c S.at):Calls Tryz.prog 96 #[.slice (some ⟨b,0,none⟩) 8 c,.string s] w fun e w'=>∃ g c',e=.returned (.slice (some ⟨g,0,none⟩) 8 c')∧RowV8 w' g c' (blk S s.data.toList).at∧w.heap.size≤g∧Below w.heap.size w w':=by
 have HV:=Hq hv;have HS:=Hq hs;clear hv hs;obtain⟨Y,hY⟩:=nm (blk S s.data.toList);have HY:=Hq hY;rw[hY];clear hY;go_enter Tryz.func96,Tryz.ntmps96;go_wp2_with fail;refine(zko s HS.out w).mono ?_;rintro e w1 ⟨rfl,hr1,hb1⟩;have HR1:=Hq hr1;have HB1:=Hq hb1;clear hr1 hb1;obtain⟨m,hm⟩:=nm (s.data.toList);rw[hm]at HR1 HY;clear hm;go_wp2_with fail;refine(zir w1).mono ?_;rintro e w2 ⟨rfl,hr2,hb2⟩;have HK2:=Hq hr2;have HR2:=Hq (HR1.out.kept hb2 HR1.out.lt);have HB2:=Hq (zda HB1.out HB1.out.size hb2);have HS2:=Hq hb2.size;have HV2:=Hq (HV.out.kept HB2.out HV.out.lt);obtain⟨H,hH⟩:=nm (w.heap.size);obtain⟨H1,hH1⟩:=nm (w1.heap.size);have hH01:H<H1:=by rw[←hH,←hH1];exact HR1.out.lt
 have hbH:b<H:=by rw[←hH];exact HV.out.lt
 rw[hH]at HR2 HB2⊢;rw[hH1]at HK2⊢;clear hb2 HB1 HR1 HS2;go_wp2_with (at_builtin;refine zb6 w2 rfl (.tmp 21) (.tmp 22) rfl rfl b c S rfl HV2.out ?_);intro g c' w3 hv3 hg3 hb3;have hsz2:H1<w2.heap.size:=by rw[←hH1]at HK2⊢;exact HK2.out.lt
 have HV3:=Hq hv3;have HB3:=Hq (HB2.out.trans (hb3.mono (by omega)));have HR3:=Hq (HR2.out.kept hb3 (by omega));have HK3:=Hq (HK2.out.kept hb3 hsz2);have HG3:=Hq (show H≤g from by omega);obtain⟨L,hL⟩:=nm (w3.heap.size);have hH1L:H1<L:=by rw[←hL];have:=hb3.size;omega
 clear hv3 hg3 hb3 HR2 HK2 HB2 HV2 hsz2;go_wp2;go_loopw [7,8] (fun v i wr=>∃ k g c:Nat,k≤64∧v=.slice (some ⟨g,0,none⟩) 8 c∧i=.int .i64 k∧H≤g∧RowV8 wr g c (rds m S k).at∧Below L w3 wr) (fun _ i _=>64 - (RowKit.intOf i).toNat);case atStart=>exact⟨0,g,c',by omega,rfl,rfl,HG3.out,by rw[zng];exact HV3.out,Below.refl _ _⟩
 case round =>
  obtain⟨k,g,c2,hk,rfl,rfl,hg,hx,hb⟩:=hrel;have HX2:=Hq hx;have HBR:=Hq hb;have HG:=Hq hg;clear hx hb hg;by_cases hlt:k<64
  · have hlti:(k:Int)<64:=by omega
    obtain⟨⟨a,b',c,d,e,f,g',hh⟩,hst⟩:∃ x,rds m S k=x:=⟨_,rfl⟩;have HST:=Hq hst;rw[hst]at HX2;clear hst;obtain⟨c0,c1,c2',c3,c4,c5,c6,c7⟩:=HX2.out.drew.c8;clear c3 c7;have HKW:=Hq (HK3.out.kept HBR.out hH1L);have HWW:=Hq (HR3.out.kept HBR.out (by omega));obtain⟨wd,hwd⟩:=nm (wr.drew);have HXD:=Hq (show RowV8 wd g c2 (W8.at ⟨a,b',c,d,e,f,g',hh⟩)from by rw[←hwd];exact HX2.out);have HKD:=Hq (show RowW wd H1 64 131 kv from by rw[←hwd];exact HKW.out.drew);have HWD:=Hq (show RowW wd H 64 131 (wv m)from by rw[←hwd];exact HWW.out.drew);have HBD:=Hq (show Below L w3 wd from by rw[←hwd];exact HBR.out.drew);rw[hwd]at c0 c1 c2' c4 c5 c6;go_wp2;refine za 24 (Eq wd) (by kernel_rfl) ?_;rw[hwd];have KK1:=Hq (fun w' (hS':(Eq wd) w')=>And.intro ((hS'▸c0)) (And.intro ((hS'▸c1)) (And.intro ((hS'▸c2')) (And.intro ((hS'▸c4)) (And.intro ((hS'▸c5)) ((hS'▸c6)))))));refine rPs 0 28 23 rfl ?_;refine rPs 1 29 22 rfl ?_;refine rTs 2 30 21 rfl KK1.out ?_;refine rPs 3 31 20 rfl ?_;refine rPs 4 32 19 rfl ?_;refine rTs 5 33 18 rfl KK1.out ?_;refine rPs 6 34 17 rfl ?_;refine rPs 7 35 16 rfl ?_;refine rTs 8 36 15 rfl KK1.out ?_;refine rPs 9 37 14 rfl ?_;refine rPs 10 38 13 rfl ?_;refine rTs 11 39 12 rfl KK1.out ?_;refine rPs 12 40 11 rfl ?_;refine rPs 13 41 10 rfl ?_;refine rTs 14 42 9 rfl KK1.out ?_;refine rPs 15 43 8 rfl ?_;refine rPs 16 44 7 rfl ?_;refine rTs 17 45 6 rfl KK1.out ?_;refine rO 18 5 ?_;intro K18 hK18;go_wp2;refine hK18 _ _ (by rfl) ?_;clear hK18;intro hS_6_18;refine rO 19 4 ?_;intro K19 hK19;go_wp2;refine hK19 _ _ (by rfl) ?_;clear hK19;intro hS_6_19;refine rO 20 3 ?_;intro K20 hK20;go_wp2;refine hK20 _ _ (by rfl) ?_;clear hK20;intro hS_6_20;refine rO 21 2 ?_;intro K21 hK21;go_wp2;refine hK21 _ _ (by rfl) ?_;clear hK21;intro hS_6_21;refine rO 22 1 ?_;intro K22 hK22;go_wp2;refine hK22 _ _ (by rfl) ?_;clear hK22;intro hS_6_22;refine rO 23 0 ?_;intro K23 hK23;go_wp2;refine hK23 _ _ (by rfl) ?_;clear hK23;intro hS_6_23;refine wDn ?_;clear c0 c1 c2' c4 c5 c6 hwd HX2 HKW HWW HBR;obtain⟨we,hwe⟩:=nm (wd.drew);have HXE:=Hq (show RowV8 we g c2 (W8.at ⟨a,b',c,d,e,f,g',hh⟩)from by rw[←hwe];exact HXD.out);obtain⟨_,_,_,_,_,_,_,c7⟩:=HXE.out.c8;have ck:=(show RowW we H1 64 131 kv from by rw[←hwe];exact HKD.out).cell hlt;have cw:=(show RowW we H 64 131 (wv m)from by rw[←hwe];exact HWD.out).cell hlt;obtain⟨kk,hkk⟩:=nm (kv k);obtain⟨ww,hww⟩:=nm (wv m k);rw[hkk]at ck;rw[hww]at cw;have HKK:=Hq hkk;have HWW:=Hq hww;clear hkk hww;have HBE:=Hq (show Below L w3 we from by rw[←hwe];exact HBD.out.drew);go_wp2;refine za 32 (Below (we).heap.size (we)) (by kernel_rfl) ?_;rw[hwe];refine rPs 0 46 31 blr ?_;refine rPs 1 47 30 blr ?_;refine rTs 2 48 29 blr (k3 c7 ck cw) ?_;refine rPs 3 49 28 blr ?_;refine rPs 5 51 27 blr ?_;refine rPs 8 54 26 blr ?_;refine rPs 12 58 25 blr ?_;refine rPs 13 59 24 blr ?_;refine rPs 14 60 23 blr ?_;refine rPs 15 61 22 blr ?_;refine rPs 16 62 21 blr ?_;refine rPs 17 63 20 blr ?_;refine rPs 18 64 19 blr ?_;refine rPs 19 65 18 blr ?_;refine rPs 21 67 17 blr ?_;refine rPs 22 68 16 blr ?_;refine rPs 23 69 15 blr ?_;refine rTs 24 70 14 blr (k3 c7 ck cw) ?_;refine rPs 26 72 13 blr ?_;refine rPs 27 73 12 blr ?_;refine rPs 28 74 11 blr ?_;refine rTs 29 75 10 blr (k3 c7 ck cw) ?_;refine rO 4 9 ?_;intro K4 hK4;go_wp2_with fail;refine(xo e 6 (by decide) (by decide) _).mono ?_;rintro e' w1 ⟨rfl,hb⟩;have HB4:=Hq hb;clear hb;go_wp2;refine hK4 _ _ (by exact HB4.out) ?_;clear hK4;intro hS_7_4;refine rO 6 8 ?_;intro K6 hK6;go_wp2_with fail;refine(xo e 11 (by decide) (by decide) _).mono ?_;rintro e' w1 ⟨rfl,hb⟩;have HB6:=Hq hb;clear hb;go_wp2;refine hK6 _ _ (by exact Below.trans hS_7_4 (Below.mono HB6.out (Below.size hS_7_4))) ?_;clear hK6;intro hS_7_6;refine rPs 7 53 7 hS_7_6 ?_;refine rO 9 6 ?_;intro K9 hK9;go_wp2_with fail;refine(xo e 25 (by decide) (by decide) _).mono ?_;rintro e' w1 ⟨rfl,hb⟩;have HB9:=Hq hb;clear hb;go_wp2;refine hK9 _ _ (by exact Below.trans hS_7_6 (Below.mono HB9.out (Below.size hS_7_6))) ?_;clear hK9;intro hS_7_9;refine rPs 10 56 5 hS_7_9 ?_;refine rPs 11 57 4 hS_7_9 ?_;refine rPs 20 66 3 hS_7_9 ?_;refine rPs 25 71 2 hS_7_9 ?_;refine rPs 30 76 1 hS_7_9 ?_;refine rO 31 0 ?_;intro K31 hK31;go_wp2;refine hK31 _ _ (by exact hS_7_9) ?_;clear hK31;intro hS_7_31;have HL:=Hq hS_7_31;refine wDn ?_;clear c7 ck cw;rw[zwd];obtain⟨T,hT⟩:=nm (hh+(rr e 6 ^^^ rr e 11 ^^^ rr e 25)+(e &&& f ^^^ ~~~ e &&& g')+kk+ww);have HT:=Hq hT;rw[hT];clear hT;have HXL:=Hq (HXE.out.kept HL.out HXE.out.lt);have HBL:=Hq (zda HBE.out (by rw[←hL];exact HBE.out.size) HL.out);have HSL:=Hq (show L≤we.heap.size from by rw[←hL];have:=HBE.out.size;omega);have HSM:=Hq HL.out.size;go_wp2_with fail;refine(xo a 2 (by decide) (by decide) _).mono ?_;rintro e' w5 ⟨rfl,hb5⟩;go_wp2_with fail;refine(xo a 13 (by decide) (by decide) _).mono ?_;rintro e' w6 ⟨rfl,hb6⟩;go_wp2_with fail;refine(xo a 22 (by decide) (by decide) _).mono ?_;rintro e' w7 ⟨rfl,hb7⟩;have hb567:=(hb5.trans (hb6.mono hb5.size)).trans (hb7.mono (by have:=hb5.size;have:=hb6.size;omega));have HX7:=Hq (HXL.out.kept hb567 HXL.out.lt);have HB7:=Hq (zda HBL.out (by have:=HSL.out;have:=HSM.out;omega) hb567);have HS7:=Hq (show L≤w7.heap.size from by have:=HSL.out;have:=HSM.out;have:=hb567.size;omega);clear hb5 hb6 hb7 hb567;obtain⟨_,_,_,c3,_,_,_,_⟩:=HX7.out.c8;go_wp2;rw[zx9,ks];clear c3;refine⟨⟨k+1,w7.heap.size,8,by omega,rfl,by go_num,by have:=HS7.out;omega,?_,HB7.out.alloc HS7.out _⟩,by simp[RowKit.intOf];omega⟩;rw[znh,HST.out,HKK.out,HWW.out];have:=RowV8.new w7 (rd kk ww ⟨a,b',c,d,e,f,g',hh⟩);rw[←HT.out];exact this
  · have HK64:=Hq (show k=64 from by omega);have hge:¬ ((k:Int)<64):=by omega
    obtain⟨X,hX⟩:=nm (rds m S 64);have HX3:=Hq (show RowV8 wr g c2 (addP X S 0)from by
     have h:=HX2.out;rw[HK64.out,hX]at h
     exact h.congr fun j _=>by unfold addP;rw[if_neg (Nat.not_lt_zero _)])
    have HXY:=Hq (show X.add S=Y from by rw[←hX,←HY.out];rfl);have HV4:=Hq (HV.out.kept HB3.out (by omega));have HV3':=Hq (HV4.out.kept HBR.out (by omega));have HBX:=Hq (show Below H w wr from HB3.out.trans (HBR.out.mono (by omega)));clear hk hlt HX2 HK64 hX HBR HV4 HV3 HR3 HK3;go_wp2;go_loopw [17] (fun i wr=>∃ q:Nat,q≤8∧i=.int .i64 q∧RowV8 wr g c2 (addP X S q)∧Below H w wr) (fun i _=>8 - (RowKit.intOf i).toNat);case atStart=>exact⟨0,by omega,rfl,HX3.out,HBX.out⟩
    case round =>
     obtain⟨q,hq,rfl,hx,hb⟩:=hrel;have HXQ:=Hq hx;have HBQ:=Hq hb;clear hx hb;by_cases hq8:q<8
     · have hqi:(q:Int)<8:=by omega
       have c0:=HXQ.out.drew.cell hq8;have c1:=(HV.out.kept HBQ.out (by rw[←hH]at hbH;omega)).drew.cell hq8;have hf:=HXQ.out.drew.free q;obtain⟨x,hx⟩:=nm (addP X S q q);obtain⟨y,hy⟩:=nm (S.at q);have HE:=Hq (show addP X S (q+1) q=x+y from by rw[←hx,←hy];unfold addP;rw[if_pos (by omega),if_neg (by omega)]);rw[hx]at c0;rw[hy]at c1;clear hx hy;obtain⟨wd,hwd⟩:=nm (wr.drew);rw[hwd]at c0 c1 hf;go_wp2;refine za 10 (Eq wd) (by kernel_rfl) ?_;rw[hwd];refine qPDs 0 116 10 rfl ?_;refine qPDs 1 117 9 rfl ?_;refine qPDs 2 118 8 rfl ?_;refine qTDs 3 119 7 rfl (fun w' hS'=>(And.intro ((hS'▸c0)) ((hS'▸c1)))) ?_;refine qPDs 4 120 6 rfl ?_;refine qPDs 5 121 5 rfl ?_;refine qPDs 6 122 4 rfl ?_;refine qTDs 7 123 3 rfl (fun w' hS'=>(And.intro ((hS'▸c0)) ((hS'▸c1)))) ?_;refine qPDs 8 124 2 rfl ?_;refine qPDs 9 125 1 rfl ?_;refine oT 10 0 ?_;intro K10 hK10;go_wp2;refine hK10 _ _ ?_;clear hK10;refine wDn ?_;clear c0 c1 hf;rw[ks];go_wp2;go_roundw;case rel =>
        refine⟨q+1,by omega,by go_num,?_,?_⟩
        · rw[←hwd];refine(HXQ.out.drew.set q (x+y)).congr fun i hi=>?_;by_cases e:i=q
          · rw[if_pos e,e,HE.out]
          · rw[if_neg e];unfold addP;by_cases h:i<q
            · rw[if_pos h,if_pos (by omega)]
            · rw[if_neg h,if_neg (by omega)]
        · rw[←hwd];exact HBQ.out.drew.setCell (by have:=HG.out;exact this) _
       case measure=>simp[RowKit.intOf];omega
     · have HQ:=Hq (show q=8 from by omega);have hqe:¬ ((q:Int)<8):=by omega
       have HXE:=Hq (show RowV8 wr g c2 Y.at from by
        have h:=HXQ.out;rw[HQ.out]at h;rw[←HXY.out]
        exact h.congr fun j hj=>zot X S j hj)
       clear hq hq8 HXQ HQ;go_wp2;go_ret;exact⟨g,c2,rfl,HXE.out,HG.out,HBQ.out⟩
set_option maxRecDepth 100000
set_option maxHeartbeats 2000000
theorem zgi(l m:List UInt8):bstr l++⟨m.toArray⟩=bstr (l++m):=by
 unfold bstr;rw[ByteArray.mk_append_mk]
theorem zts(N:Nat):beN 8 N=shE8 N:=by
 have e:∀ k,UInt8.ofNat (N / 256 ^ k%256)=UInt8.ofNat (N / 2 ^ (8 * k)):=fun k=>by
  rw[Nat.pow_mul];apply UInt8.toNat_inj.1;simp[UInt8.toNat_ofNat']
 show [UInt8.ofNat (N / 256 ^ 7%256),UInt8.ofNat (N / 256 ^ 6%256),UInt8.ofNat (N / 256 ^ 5%256),UInt8.ofNat (N / 256 ^ 4%256),UInt8.ofNat (N / 256 ^ 3%256),UInt8.ofNat (N / 256 ^ 2%256),UInt8.ofNat (N / 256 ^ 1%256),UInt8.ofNat (N / 256 ^ 0%256)]=_;rw[e 7,e 6,e 5,e 4,e 3,e 2,e 1,e 0];simp[shE8]
theorem zpc(s:ByteArray)(hs:s.size≤1000000000000)(w:World):Calls Tryz.prog 95 #[.string s] w (Ret (.string (bstr (padL s.data.toList))) w):=by
 obtain⟨n,hn⟩:=nm (s.size);obtain⟨l,hl⟩:=nm (s.data.toList);have HL:=Hq (show l.length=n from by rw[←hl,←hn];exact Array.length_toList);have hsl:s=bstr l:=by rw[←hl];exact(xd s).symm
 rw[hl];obtain⟨r,hr⟩:=nm (bstr (padL l));have HR:=Hq hr;rw[hr];clear hr;rw[hn]at hs;have hni:(n:Int)≤1000000000000:=by omega
 obtain⟨t1,ht1⟩:=nm (bstr (l++[128]));have hadd:∀ w,(Op.stringOp .add s ⟨#[128]⟩).run Tryz.prog w=.ok (.string t1) w:=fun w=>by
  rw[run_string_add_sum w _ _ (by rw[hn];show n+1≤_;omega),hsl,←ht1];exact congrArg (fun x=>Result.ok (Value.string x) w) (zgi l [128])
 have HT1:=Hq ht1;clear hl hsl ht1;go_enter Tryz.func95,Tryz.ntmps95;go_wp2;clear hadd;go_loopw [0] (fun v wr=>∃(k:Nat) (t:ByteArray),k≤zs n∧v=.string t∧t=bstr (l++[128]++List.replicate k 0)∧w=wr) (fun v _=>n+100 - (match v with | .string s=>s.size | _=>0));case atStart=>exact⟨0,t1,Nat.zero_le _,rfl,by rw[←HT1.out];simp,rfl⟩
 case round =>
  obtain⟨k,t,hk,rfl,ht,rfl⟩:=hrel;obtain⟨j,hj⟩:=nm (n+1+k);have htj:t.size=j:=by rw[ht,zm];simp[HL.out];omega
  have HT:=Hq ht;have HJ:=Hq hj;by_cases hlt:k<zs n
  · have hne:¬ ((j:Int)%64=56):=by have : zs n=(119 - n%64)%64:=rfl;omega
    obtain⟨t2,ht2⟩:=nm (bstr (l++[128]++List.replicate (k+1) 0));have hadd:∀ w,(Op.stringOp .add t ⟨#[0]⟩).run Tryz.prog w=.ok (.string t2) w:=fun w=>by
     have hz:zs n≤63:=by unfold zs;omega
     rw[run_string_add_sum w _ _ (by rw[htj];show j+1≤_;omega),ht,←ht2];refine congrArg (fun x=>Result.ok (Value.string x) w) ?_;rw[List.replicate_succ',←List.append_assoc];exact zgi _ [0]
    have HT2:=Hq ht2
    have hj63 : (j : Int) ≤ 1000000000100 := by have hz : zs n ≤ 63 := by unfold zs; omega
                                                omega
    clear ht ht2 hj hk;go_wp2;refine⟨⟨k+1,t2,by omega,rfl,HT2.out.symm,trivial⟩,?_⟩;have h1:=HT2.out;have h2:t2.size=n+1+(k+1):=by rw[←h1,zm];simp[HL.out];omega
    have h3:=HJ.out;have hz:zs n≤63:=by unfold zs;omega
    show n+100 - t2.size<n+100 - t.size;omega
  · have he:(j:Int)%64=56:=by have : zs n=(119 - n%64)%64:=rfl;omega
    have HKZ:=Hq (show k=zs n from by omega);have hmk:(Instr.makeSlice 130 (.int .i64 8) (.int .i64 8)).run Tryz.prog w=.ok (.slice (some ⟨w.heap.size,0,none⟩) 8 8) (w.alloc (.cells (zb 8) 5)):=xi 8 (by decide) w;have HO:=Hq (OutB.start (w:=w) 8 (n * 8));have HB:=Hq (show Below w.heap.size w (w.alloc (.cells (zb 8) 5))from(blr).alloc nlr _);obtain⟨w1,hw1⟩:=nm (w.alloc (.cells (zb 8) 5));rw[hw1]at hmk HO HB;clear hw1 hk hlt ht hj;obtain⟨H,hH⟩:=nm (w.heap.size);rw[hH]at hmk HO HB;go_wp2;clear he hmk;go_loopw [5,6] (fun b i wr=>∃ q:Nat,q≤8∧b=.int .u64 ((n * 8 / 256 ^ q:Nat):Int)∧i=.int .i64 (7 - (q:Int))∧OutB wr H 8 q (n * 8)∧Below H w wr) (fun _ i _=>(8+RowKit.intOf i).toNat);case atStart=>exact⟨0,by omega,by simp,rfl,HO.out,HB.out⟩
    case round =>
     obtain⟨q,hq,rfl,rfl,ho,hb⟩:=hrel;have HO:=Hq ho;have HB:=Hq hb;clear ho hb;by_cases hlt:q<8
     · obtain⟨p,hp⟩:∃ p,p+1+q=8:=⟨7 - q,by omega⟩;have hpi:(7:Int) - (q:Int)=(p:Int):=by omega
       obtain⟨N,hN⟩:=nm (n * 8 / 256 ^ q);have HN:=Hq hN;rw[hN];have hd:((N:Int)%256)=((dig (n * 8) q:Nat):Int):=by rw[←hN];unfold dig;simp
       clear hN;obtain⟨u,c0⟩:=HO.out.cell (show p<8 by omega);have hf:=HO.out.free p;have hp8:(p:Int)<8:=by omega
       have hp0:(0:Int)≤(p:Int):=by omega
       have HP:=Hq hp;clear hp hq hlt;go_wp2;have h1:=HO.out.step (k:=p) (by have:=HP.out;omega);refine⟨⟨q+1,by have:=HP.out;omega,?_,?_,h1,HB.out.setCell (p:=⟨H,p,none⟩) nlr _⟩,?_⟩
       · rw[show n * 8 / 256 ^ (q+1)=N / 256 from by rw[←HN.out,Nat.pow_succ,Nat.div_div_eq_div_mul]];have hNn:N≤n * 8:=by rw[←HN.out];exact Nat.div_le_self _ _
         simp;rw[IntKind.wrap_u64];omega
       · have:=HP.out;congr 1;omega
       · have:=HP.out;simp[RowKit.intOf];omega
     · have HQ8:=Hq (show q=8 from by omega);have hge:¬ ((0:Int)≤7 - (q:Int)):=by omega
       have hby:=(show OutB wr H 8 8 (n * 8)from by have:=HO.out;rw[HQ8.out]at this;exact this).bytes (by omega)
       rw[zts]at hby
       have hconv:=hby.conv 130 9 5 Tryz.underlying130 Tryz.underlying5 Tryz.underlying9;have HE:=Hq (show (bstr (shE8 (n * 8))).size=8 from by rw[zm];rfl);obtain⟨y,hy⟩:=nm (bstr (shE8 (n * 8)));rw[hy]at hconv HE;have hadd:∀ w,(Op.stringOp .add t y).run Tryz.prog w=.ok (.string r) w:=fun w=>by
        have hz:zs n≤63:=by unfold zs;omega
        have hts:t.size≤1000000000100:=by rw[HT.out,zm];simp[HL.out];have:=HKZ.out;omega
        rw[run_string_add_sum w _ _ (by rw[HE.out];omega),HT.out,←hy,←HR.out];refine congrArg (fun x=>Result.ok (Value.string x) w) ?_;rw[HKZ.out];unfold padL;rw[HL.out];exact zgi _ _
       clear hby hy hlt hq;go_wp2;go_ret;exact⟨rfl,by rw[hH];exact HB.out⟩
set_option maxRecDepth 100000
set_option maxHeartbeats 2000000
theorem zly(l:List UInt8)(a b:Nat):(bstr l).extract a b=bstr ((l.drop a).take (b - a)):=ByteArray.extract_mk l a b
theorem zsz(l:List UInt8):(bstr l).data.toList=l:=by simp[bstr]
theorem zfe(s:ByteArray)(hs:s.size≤1000000000000)(w:World):Calls Tryz.prog 54 #[.string s] w (Ret (.string (bstr (shaL s.data.toList))) w):=by
 have HPD:=Hq (zpc s hs);obtain⟨n,hn⟩:=nm (s.size);obtain⟨l,hl⟩:=nm (s.data.toList);have hll:l.length=n:=by rw[←hl,←hn];exact Array.length_toList
 rw[hl]at HPD⊢;obtain⟨r,hr⟩:=nm (bstr (shaL l));have HR:=Hq hr;rw[hr];obtain⟨P,hP⟩:=nm (padL l);rw[hP]at HPD;obtain⟨Ln,hLn⟩:=nm (P.length);have HLn:=Hq hLn;have HPP:=Hq hP;have HMOD:=Hq (show Ln%64=0 from by rw[←hLn,←hP];exact znl l);have HBIG:=Hq (show Ln≤1000000000100 from by
  rw[←hLn,←hP,zca,hll];have : zs n≤63:=by unfold zs;omega
  omega)
 obtain⟨m,hm⟩:=nm (bstr P);have HM:=Hq hm;have HMS:=Hq (show m.size=Ln from by rw[←hm,zm,hLn]);rw[hm]at HPD;clear hr hP hLn hm hl hll hn hs;have e0:st0.arr=#[Value.int .u32 1779033703,Value.int .u32 3144134277,Value.int .u32 1013904242,Value.int .u32 2773480762,Value.int .u32 1359893119,Value.int .u32 2600822924,Value.int .u32 528734635,Value.int .u32 1541459225]:=by kernel_rfl
 have HS0:=Hq (show RowV8 (w.alloc (.cells st0.arr 131)) w.heap.size 8 st0.at from RowV8.new w st0);have HB0:=Hq (show Below w.heap.size w (w.alloc (.cells st0.arr 131))from(blr).alloc nlr _);rw[e0]at HS0 HB0;clear e0;go_enter Tryz.func54,Tryz.ntmps54;go_wp2_with fail;refine(HPD.out _).mono ?_;rintro e w1 ⟨rfl,hb1⟩;have HS1:=Hq (HS0.out.kept hb1 HS0.out.lt);have HB1:=Hq (zda HB0.out HB0.out.size hb1);obtain⟨H,hH⟩:=nm (w.heap.size);rw[hH]at HS1 HB1⊢;clear hb1 HS0 HB0 HPD;go_wp2;go_loopw [3,5] (fun v i wr=>∃ k g c:Nat,64 * k≤Ln∧v=.slice (some ⟨g,0,none⟩) 8 c∧i=.int .i64 ((64 * k:Nat):Int)∧RowV8 wr g c (blks st0 k P).at∧Below H w wr) (fun _ i _=>Ln - (RowKit.intOf i).toNat);case atStart=>exact⟨0,H,8,Nat.zero_le _,rfl,rfl,HS1.out,HB1.out⟩
 case round =>
  obtain⟨k,g,c,hk,rfl,rfl,hx,hb⟩:=hrel;have HX:=Hq hx;have HB:=Hq hb;clear hx hb;obtain⟨j,hj⟩:=nm (64 * k);have HJ:=Hq hj;rw[hj];have hms:=HMS.out;have hbig:=HBIG.out;by_cases hlt:j<Ln
  · have h64:j+64≤Ln:=by have:=HMOD.out;omega
    have hji:(j:Int)<(m.size:Int):=by omega
    have h64i:(j:Int)+64≤(m.size:Int):=by omega
    have hbi:(j:Int)≤1000000000100:=by omega
    clear hj hk hlt h64 hms hbig;go_wp2_with fail;have hlist:(m.extract j (j+64)).data.toList=(P.drop (64 * k)).take 64:=by
     rw[←HM.out,zly,zsz,←HJ.out,Nat.add_sub_cancel_left]
    have hsz:(m.extract j (j+64)).size=64:=(by rw[ByteArray.size_extract];omega);have HC:=zkp (blks st0 k P) (m.extract j (j+64)) hsz g c wr HX.out;rw[hlist,←zl0]at HC;have HKJ:=Hq (show 64 * (k+1)=j+64∧j+64≤Ln∧j<Ln from by have:=HJ.out;have:=HMS.out;omega);refine HC.mono ?_;rintro e w2 ⟨g2,c2,rfl,hx2,hg2,hb2⟩;have HX2:=Hq hx2;have HB2:=Hq (zda HB.out (by rw[←hH];exact HB.out.size) hb2);clear hx2 hg2 hb2 HC hlist hsz;go_wp2;refine⟨⟨k+1,g2,c2,?_,rfl,?_,HX2.out,HB2.out⟩,?_⟩
    · rw[HKJ.out.1];exact HKJ.out.2.1
    · rw[HKJ.out.1];simp
    · have:=HKJ.out;simp[RowKit.intOf];omega
  · have hge:¬ ((j:Int)<(m.size:Int)):=by omega
    obtain⟨F,hF⟩:=nm (blks st0 k P);have HF:=Hq (show r=bstr (F.ws.flatMap wo)from by
     rw[←HR.out,←hF];unfold shaL;rw[HPP.out,HLn.out,show Ln / 64=k from by have:=HJ.out;omega])
    rw[hF]at HX;clear hF hlt hj hk hms hbig;obtain⟨w5,hw5⟩:∃ x,x=wr:=⟨_,rfl⟩;subst hw5;obtain⟨G,hG⟩:=nm (w5.heap.size);have HHG:=Hq (show H≤G from by rw[←hG,←hH];exact HB.out.size);have HGG:=Hq (show g<G from by rw[←hG];exact HX.out.lt);go_wp2;clear hge;go_loopw [6,7] (fun v x wx=>∃ i:Nat,i≤8∧x=.int .i64 i∧wx.ownsRow G 5 1 v (4 * i) (Lib.byteCells ((F.ws.take i).flatMap wo))∧Below G w5 wx) (fun _ x _=>8 - (RowKit.intOf x).toNat);case atStart=>exact⟨0,by omega,rfl,World.ownsRow_nil _ _ _ _,Below.refl _ _⟩
    case round =>
     obtain⟨i2,hi2,rfl,hown,hb⟩:=hrel;have HO:=Hq hown;have HB2:=Hq hb;clear hown hb;by_cases hlt:i2<8
     · have hi2i:(i2:Int)<8:=by omega
       have HX2:=HX.out.kept HB2.out HGG.out;have cc:=HX2.cell hlt;have HTK:=Hq (zqk F i2 hlt);obtain⟨x,hx⟩:=nm (F.at i2);rw[hx]at cc HTK;clear hx HX2;have HWC:=Hq (zhd x);have HGX:=Hq (show G≤wr.heap.size from by rw[←hG];exact HB2.out.size);go_wp2_with (at_builtin;refine q5 _ rfl (.tmp 33) (.tmp 45) rfl G (4 * i2) _ ((F.ws.take i2).flatMap wo) rfl (HO.out.alloc _) (by omega) wr.heap.size 4 x rfl (by rw[←HWC.out];exact heap_alloc_new _ _) (by have:=HGX.out;simp;omega) ?_);intro v3 w8 ho8 hb8;have HO8:=Hq ho8;have HB8:=Hq (show Below G w5 w8 from(HB2.out.alloc (by have:=HGX.out;omega) _).trans hb8);clear ho8 hb8 cc;go_wp2;go_roundw;case rel =>
        refine⟨i2+1,by omega,by go_num,?_,HB8.out⟩;rw[HTK.out];exact HO8.out
       case measure=>simp[RowKit.intOf];omega
     · obtain rfl:i2=8:=by omega
       obtain⟨A,c7,rfl,hby⟩:=zkx HO.out (show ((F.ws.take 8).flatMap wo).length=4 * 8 from by simp[W8.ws,wo]);have hconv:=hby.conv 130 9 5 Tryz.underlying130 Tryz.underlying5 Tryz.underlying9;have hw8:F.ws.take 8=F.ws:=rfl;rw[hw8,←HF.out]at hconv;clear hby hw8;have HBF:=Hq (show Below H w wr from HB.out.trans (HB2.out.mono HHG.out));go_wp2;go_ret;exact⟨rfl,by rw[hH];exact HBF.out⟩
set_option maxRecDepth 100000
set_option maxHeartbeats 4000000
theorem zqw{q:Nat}(n:Nat)(h:q<8):(shE8 n).drop (7 - q)=UInt8.ofNat (n / 256 ^ q)::(shE8 n).drop (8 - q):=by
 match q,h with
 | 0,_=>simp[shE8]
 | 1,_=>rfl
 | 2,_=>rfl
 | 3,_=>rfl
 | 4,_=>rfl
 | 5,_=>rfl
 | 6,_=>rfl
 | 7,_=>rfl
theorem zs9(a b:ByteArray):(a++b).data.toList=a.data.toList++b.data.toList:=by simp
theorem qe(l m:List UInt8):bstr l++bstr m=bstr (l++m):=by
 rw[←xd (bstr l++bstr m),zs9,jn,jn]
theorem zs0(l:List UInt8)(x:ByteArray):bstr l++x=bstr (l++x.data.toList):=by
 rw[←qe,xd]
theorem zqa{w:World}{g:Nat}{c:Int}{cb:UInt8}(h:w.cell? ⟨g,0,none⟩=some (.int .u8 c))(hc:c=(cb.toNat:Int)):(convert 130 9 (.slice (some ⟨g,0,none⟩) 1 1)).run Tryz.prog w=.ok (.string (bstr [cb])) w:=by
 refine BytesAt.conv (bs:=[cb]) (len:=1) (cap:=1) ⟨rfl,Nat.le_refl _,by omega,fun _=>⟨g,0,rfl,fun k hk=>?_⟩⟩ _ _ 5 Tryz.underlying130 Tryz.underlying5 Tryz.underlying9
 match k,hk with
 | 0,_=>rw[h,hc];rfl
theorem zfc(n:Nat)(hn:n≤4611686018427387904)(w:World):Calls Tryz.prog 199 #[.int .i64 n] w (Ret (.string (bstr (shE8 n))) w):=by
 go_enter Tryz.func199,Tryz.ntmps199;go_wp2;go_loopw [0,3,4] (fun x s i wr=>∃ q:Nat,q≤8∧x=.int .i64 ((n / 256 ^ q:Nat):Int)∧s=.string (bstr ((shE8 n).drop (8 - q)))∧i=.int .i64 q∧Below w.heap.size w wr) (fun _ _ i _=>8 - (RowKit.intOf i).toNat);case atStart=>exact⟨0,Nat.zero_le _,by simp,rfl,rfl,Below.refl _ _⟩
 case round =>
  obtain⟨q,hq,rfl,rfl,rfl,hb⟩:=hrel;have HB:=Hq hb;clear hb;by_cases hlt:q<8
  · obtain⟨y,hy⟩:=nm (n / 256 ^ q);have HY:=Hq hy;have hyb:(y:Int)≤4611686018427387904:=by rw[←hy];have:=Nat.div_le_self n (256 ^ q);omega
    have HD:=Hq (zqw n hlt);rw[hy]at HD⊢;obtain⟨t,ht⟩:=nm ((shE8 n).drop (8 - q));have HT:=Hq ht;rw[ht]at HD⊢;have HQ:=Hq hlt;have hqi:(q:Int)<8:=by omega
    have hcv:=zqa (w:=wr.alloc (.cells #[.int .u8 ((y:Int)%256)] 5)) (g:=wr.heap.size) (c:=(y:Int)%256) (cb:=UInt8.ofNat y) (by simp) (by simp[UInt8.toNat_ofNat']);have hadd:=run_string_add_sum (P:=Tryz.prog) (wr.alloc (.cells #[.int .u8 ((y:Int)%256)] 5)) (bstr [UInt8.ofNat y]) (bstr t) (by rw[zm,zm,←ht,List.length_drop];simp[shE8];omega);rw[qe]at hadd;clear hy ht hq hlt;go_wp2;refine⟨?_,by have:=HQ.out;simp[RowKit.intOf];omega⟩;refine⟨q+1,HQ.out,?_,?_,rfl,HB.out.alloc HB.out.size _⟩
    · rw[Nat.pow_succ,←Nat.div_div_eq_div_mul,HY.out];rfl
    · rw[show 8 - (q+1)=7 - q from by omega,HD.out]
  · have hq8:q=8:=by omega
    have HQ:=Hq hq8;have hge:¬ ((q:Int)<8):=by omega
    have HR:=Hq (show (shE8 n).drop (8 - q)=shE8 n from by rw[hq8];rfl);rw[HR.out];clear hq hlt hq8;go_wp2;go_ret;exact⟨rfl,HB.out⟩
theorem zmf{l:List ByteArray}{m:Nat}(h:∀ s∈l,s.size≤m)(hl:l.length≤1000)(k:Nat):(ptL (dt (l.take k))).length≤1000 * (8+m):=
 Nat.le_trans (zkv h k) (Nat.mul_le_mul_right _ hl)
theorem zd8(k:UInt8)(A:Option Addr)(n c:Nat)(l:List ByteArray)(hn:n≤1000)(hz:∀ s∈l,s.size≤1000000)(w:World)(hs:SlN w A n c l):Calls Tryz.prog 198 #[.string (bstr [k]),.slice A n c] w (Ret (.string (bstr (trH k (dt l)))) w):=by
 have HS:=Hq hs;have HZ:=Hq hz;have HN:=Hq hn;have HLN:=Hq hs.1;have HE:=Hq (zfc n (by omega));have hadd0:=run_string_add_sum (P:=Tryz.prog);clear hs hz hn;go_enter Tryz.func198,Tryz.ntmps198;go_wp2_with fail;refine(HE.out _).mono ?_;rintro e w1 ⟨rfl,hb1⟩;have hadd:=hadd0 w1 (bstr [k]) (bstr (shE8 n)) (by rw[zm,zm];simp[shE8]);rw[qe]at hadd;have HB1:=Hq hb1;have HA:=Hq (fun w a b h=>hadd0 w a b h);clear hb1 hadd0;go_wp2;clear hadd;go_loopw [5,6] (fun s i wr=>∃ q:Nat,q≤n∧s=.string (bstr (k::shE8 n++ptL (dt (l.take q))))∧i=.int .i64 q∧Below w.heap.size w wr) (fun _ i _=>n - (RowKit.intOf i).toNat);case atStart=>exact⟨0,Nat.zero_le _,by simp[ptL,dt],rfl,HB1.out⟩
 case round =>
  obtain⟨q,hq,rfl,rfl,hb⟩:=hrel;have HB:=Hq hb;clear hb;have HPL:=Hq (zmf HZ.out (by rw[HLN.out];exact HN.out) q);obtain⟨pre,hpre⟩:=nm (k::shE8 n++ptL (dt (l.take q)));have HPR:=Hq (show pre.length≤2000000000 from by
   rw[←hpre];have h1:=HPL.out;simp[shE8]
   omega)
  have HPP:=Hq hpre;rw[hpre];clear hpre;by_cases hlt:q<n
  · obtain⟨b1,o1,rfl⟩:=HS.out.head (by omega);obtain⟨x,hx⟩:∃ x,l[q]? =some x:=⟨_,List.getElem?_eq_getElem (by have:=HLN.out;omega)⟩;obtain⟨wd,hwd⟩:=nm (wr.drew);have HBD:=Hq (show Below w.heap.size w wd from by rw[←hwd];exact HB.out.drew);have HSD:=Hq (HS.out.kept HBD.out nlr);have hcx:=HSD.out.get? q hx;have HXS:=Hq (HZ.out x (List.mem_of_getElem? hx));have HEX:=Hq (zfc x.size (by have:=HXS.out;omega));have HX:=Hq hx;have HQ:=Hq hlt;have hqi:(q:Int)<n:=by omega
    have hq9:(q:Int)<1000:=by have:=HN.out;omega
    clear hx hq hlt;go_wp2;refine za 14 (Below (wd).heap.size (wd)) (by kernel_rfl) ?_;rw[hwd];refine rPs 0 18 13 blr ?_;refine rPs 1 19 12 blr ?_;refine rPs 2 20 11 blr ?_;refine rPs 3 21 10 blr ?_;refine rTs 4 22 9 blr (k1 hcx) ?_;refine rPs 5 23 8 blr ?_;refine rPs 7 25 7 blr ?_;refine rPs 8 26 6 blr ?_;refine rPs 9 27 5 blr ?_;refine rTs 10 28 4 blr (k1 hcx) ?_;refine rO 6 3 ?_;intro K6 hK6;go_wp2_with fail;refine(HEX.out _).mono ?_;rintro e w3 ⟨rfl,hb3⟩;have HB6:=Hq hb3;clear hb3;go_wp2;refine hK6 _ _ (by exact HB6.out) ?_;clear hK6;intro hS_5_6;intro hD;refine ji (i:=11) (d:=some 29) (v:=(.string (bstr (shE8 x.size++x.data.toList)))) (fuel:=2) rfl (by kernel_rfl) (by kernel_rfl) (by kernel_rfl) (fun _ _ _ h=>h) hD hS_5_6 (.inl ⟨by kernel_rfl,?y5_11b1⟩) ?n5_11b1;case y5_11b1 =>
     intro w' _;go_simp;rw[if_neg (by rw[zm];have:=HXS.out;simp[shE8];omega),zs0]
    simp only[Act.put,sqA,sqB,sqC];intro hD;refine ji (i:=12) (d:=some 30) (v:=(.string (bstr (pre++(shE8 x.size++x.data.toList))))) (fuel:=1) rfl (by kernel_rfl) (by kernel_rfl) (by kernel_rfl) (fun _ _ _ h=>h) hD hS_5_6 (.inl ⟨by kernel_rfl,?y5_12b1⟩) ?n5_12b1;case y5_12b1 =>
     intro w' _;go_simp;rw[if_neg (by rw[zm,zm];have:=HPR.out;have:=HXS.out;simp[shE8,jb];omega),qe]
    simp only[Act.put,sqA,sqB,sqC];refine rO 13 0 ?_;intro K13 hK13;go_wp2;refine hK13 _ _ (by exact hS_5_6) ?_;clear hK13;intro hS_5_13;have HL:=Hq hS_5_13;refine wDn ?_;go_wp2;go_roundw;case rel =>
     refine⟨q+1,HQ.out,?_,rfl,HBD.out.trans (HL.out.mono HBD.out.size)⟩;rw[km HX.out,zmy,zi1,jb,←HPP.out];simp only[List.append_assoc]
    case measure=>have:=HQ.out;simp[RowKit.intOf];omega
  · have hqn:q=n:=by omega
    have HF:=Hq (show pre=frL k (dt l)from by
     rw[←HPP.out,hqn,List.take_of_length_le (by rw[HLN.out];exact Nat.le_refl _)];unfold frL
     rw[zbp,HLN.out])
    have HSUM:=Hq (zfe (bstr pre) (by rw[zm];have:=HPR.out;omega));rw[jn,HF.out,show shaL (frL k (dt l))=trH k (dt l)from rfl,←HF.out]at HSUM;have hqf:¬ (q:Int)<n:=by omega
    obtain⟨r,hr⟩:=nm (bstr (trH k (dt l)));have HR:=Hq hr;rw[hr]at HSUM;clear hqn hlt hq hr;go_wp2_with fail;refine(HSUM.out _).mono ?_;rintro e w4 ⟨rfl,hb4⟩;have HB4:=bt HB hb4;clear hb4;go_wp2;go_ret;exact⟨by rw[HR.out];rfl,HB4.out⟩
theorem zwm(a:ByteArray)(ha:a.size≤1000000)(w:World):Calls Tryz.prog 140 #[.string a] w (Ret (.string (bstr (trH 78 (dt [a])))) w):=by
 have HF:=Hq (zd8 78 _ 1 1 [a] (by omega) (by simpa using ha) _ (jc w [a] 9 (by simp)));rw[show bstr [78]=⟨#[78]⟩from rfl]at HF;obtain⟨r,hr⟩:=nm (bstr (trH 78 (dt [a])));rw[hr]at HF⊢;clear hr;have HB:=Hq ((Below.refl w.heap.size w).alloc nlr (.cells #[.string a] 9));go_enter Tryz.func140,Tryz.ntmps140;go_wp2_with fail;refine HF.out.mono ?_;rintro e w1 ⟨rfl,hb⟩;have HB1:=bt HB hb;clear hb;go_wp2;go_ret;exact⟨rfl,HB1.out⟩
theorem zwn(a b c:ByteArray)(ha:a.size≤1000000)(hb:b.size≤1000000)(hc:c.size≤1000000)(w:World):Calls Tryz.prog 142 #[.string a,.string b,.string c] w (Ret (.string (bstr (trH 65 (dt [a,b,c])))) w):=by
 have HF:=Hq (zd8 65 _ 3 3 [a,b,c] (by omega) (by simp;exact⟨ha,hb,hc⟩) _ (jc w [a,b,c] 9 (by simp)));rw[show bstr [65]=⟨#[65]⟩from rfl]at HF;obtain⟨r,hr⟩:=nm (bstr (trH 65 (dt [a,b,c])));rw[hr]at HF⊢;clear hr;have HB:=Hq ((Below.refl w.heap.size w).alloc nlr (.cells #[.string a,.string b,.string c] 9));clear ha hb hc;go_enter Tryz.func142,Tryz.ntmps142;go_wp2_with fail;refine HF.out.mono ?_;rintro e w1 ⟨rfl,hb⟩;have HB1:=bt HB hb;clear hb;go_wp2;go_ret;exact⟨rfl,HB1.out⟩
theorem zni(a b:ByteArray)(A1:Option Addr)(n1 c1:Nat)(l1:List ByteArray)(ha:a.size≤1000000)(hb:b.size≤1000000)(hn:n1≤900)(hz:∀ s∈l1,s.size≤1000000)(w:World)(h1:SlN w A1 n1 c1 l1):Calls Tryz.prog 141 #[.string a,.string b,.slice A1 n1 c1] w (Ret (.string (bstr (trH 76 (dt ([a,b]++l1))))) w):=by
 obtain⟨i0,hi,hz0,hz1,hz2⟩:=info_parts zd5;have HZ:=Hq (show ∀ s∈[a,b]++l1,s.size≤1000000 from by
  intro s hs;rcases List.mem_append.1 hs with h | h
  · simp at h;rcases h with rfl | rfl<;>assumption
  · exact hz s h)
 have HS:=Hq h1;have HN:=Hq hn;have HO0:=Hq (World.ownsRow_lit (base:=w.heap.size) (e:=9) (size:=1) w #[.string a,.string b] 2 nlr (by decide) rfl);have HB0:=Hq ((Below.refl w.heap.size w).alloc nlr (.cells #[.string a,.string b] 9));have HZ0:=Hq (show w.heap.size≤(w.alloc (.cells #[.string a,.string b] 9)).heap.size from by simp);clear ha hb hz h1 hn;go_enter Tryz.func141,Tryz.ntmps141;go_wp2;go_loopw [7,8] (fun v i wr=>∃ j:Nat,j≤n1∧i=.int .i64 j∧wr.ownsRow w.heap.size 9 1 v (2+j) (([a,b]++l1.take j).map Value.string)∧Below w.heap.size w wr∧w.heap.size≤wr.heap.size) (fun _ i _=>n1 - (RowKit.intOf i).toNat);case atStart=>exact⟨0,Nat.zero_le _,rfl,by simpa using HO0.out,HB0.out,HZ0.out⟩
 case round =>
  obtain⟨j,hj,rfl,hown,hb,hzr⟩:=hrel;have HO:=Hq hown;have HB:=Hq hb;have HZR:=Hq hzr;clear hown hb hzr;by_cases hlt:j<n1
  · obtain⟨b1,o1,rfl⟩:=HS.out.head (by omega);obtain⟨x,hx⟩:∃ x,l1[j]? =some x:=⟨_,List.getElem?_eq_getElem (by have:=HS.out.1;omega)⟩;have hcx:=(HS.out.kept HB.out nlr).get? j hx;have HX:=Hq hx;have HQ:=Hq hlt;have hji:(j:Int)<n1:=by omega
    have hj9:(j:Int)<1000:=by have:=HN.out;omega
    clear hx hlt hj;go_wp2_with (at_builtin;refine wpList_append_own _ rfl (.tmp 18) (.tmp 23) 63 rfl w.heap.size 9 i0 (.string ⟨#[]⟩) 1 16 Tryz.underlying63 hi hz0 hz1 hz2 rfl (by decide) _ (2+j) _ rfl (HO.out.alloc _) ⟨wr.heap.size,0,none⟩ 1 1 [.string x] rfl rfl ?c1 ?c2 ?c3 ?c4 ?c5 ?_);case c1 =>
     intro i u hu
     match i,hu with
     | 0,hu=>simp at hu;subst hu;simp[Addr.add]
     | (i+1),hu=>simp at hu
    case c2=>intro u hu;simp at hu;subst hu;rfl
    case c3=>have:=HN.out;have:=HQ.out;unfold maxLen;omega
    case c4=>have:=HN.out;have:=HQ.out;omega
    case c5=>simp;exact Nat.le_succ_of_le HZR.out
    intro v' w4 hown hgrow _;have HO4:=Hq hown;have HB4:=Hq (show Below w.heap.size w w4 from(HB.out.alloc HZR.out _).grown hgrow (by simp;exact Nat.le_succ_of_le HZR.out) (fun k hk=>(HO.out.lt k hk).1));have HZ4:=Hq (show w.heap.size≤w4.heap.size from by have:=hgrow.size;simp at this;have:=HZR.out;omega);clear hown hgrow hcx;go_wp2;go_roundw;case rel =>
     refine⟨j+1,HQ.out,by go_num,?_,HB4.out,HZ4.out⟩;rw[km HX.out,←List.append_assoc,List.map_append,←Nat.add_assoc];have h:=HO4.out;simpa[List.map_take]using h
    case measure=>have:=HQ.out;simp[RowKit.intOf];omega
  · have hjn:j=n1:=by omega
    have hjf:¬ (j:Int)<n1:=by omega
    obtain⟨hl9,A,c,rfl,hs9⟩:=SlN.of_owns HO.out;have hs9':SlN wr A (2+j) c ([a,b]++l1):=(by have h:=hs9;rwa[hjn,List.take_of_length_le (by rw[HS.out.1];exact Nat.le_refl _),←hjn]at h);have HF:=Hq (zd8 76 A (2+j) c ([a,b]++l1) (by have:=HN.out;omega) HZ.out wr hs9');rw[show bstr [76]=⟨#[76]⟩from rfl]at HF;obtain⟨r,hr⟩:=nm (bstr (trH 76 (dt ([a,b]++l1))));have HR:=Hq hr;rw[hr]at HF;clear hr hs9 hs9' hl9 hjn hlt hj;go_wp2_with fail;refine HF.out.mono ?_;rintro e w4 ⟨rfl,hb4⟩;have HB4:=Hq (HB.out.trans (hb4.mono HZR.out));clear hb4;go_wp2;go_ret;exact⟨by show _=Ending.returned (.string (bstr (trH 76 (dt ([a,b]++l1)))));rw[HR.out];rfl,HB4.out⟩
set_option maxRecDepth 100000
set_option maxHeartbeats 1000000
theorem zqv(w:World)(l:List ByteArray)(h:l.length≤9223372036854775807:=by decide):SlS (w.alloc (.cells (l.map Value.string).toArray 9)) (some ⟨w.heap.size,0,none⟩) l.length l.length l:=
 ⟨jc w l _ h,(fun e=>by cases e),fun b o e=>by cases e;exact⟨_,_,heap_alloc_new _ _⟩⟩
theorem SlS.none(w:World):SlS w none 0 0 []:=⟨SlN.nil w 0 (by omega) _,fun _=>rfl,fun b o e=>by cases e⟩
theorem zh8(k:UInt8)(A1:Option Addr)(n1 c1:Nat)(l1:List ByteArray)(hn:n1≤1000)(hz:∀ s∈l1,s.size≤1000000)(w:World)(h1:SlN w A1 n1 c1 l1) :
 Calls Tryz.prog 167 #[.int .u8 (k.toNat:Int),.slice A1 n1 c1] w (Ret (.string (bstr (trH k (dt l1)))) w):=by
 have HF:=Hq (zo3 k none 0 0 [] A1 n1 c1 l1 (by omega) (by simpa using hz) w (SlS.none w) h1);rw[List.nil_append]at HF;obtain⟨r,hr⟩:=nm (bstr (trH k (dt l1)));rw[hr]at HF⊢;clear hr h1;go_enter Tryz.func167,Tryz.ntmps167;go_wp2_with fail;refine HF.out.mono ?_;rintro e w1 ⟨rfl,hb⟩;go_wp2;go_ret;exact⟨rfl,hb⟩
theorem zyc(a:ByteArray)(ha:a.size≤1000000)(w:World):Calls Tryz.prog 116 #[.string a] w (Ret (.string (bstr (trH 78 (dt [a])))) w):=by
 have HF:=Hq (zh8 78 _ 1 1 [a] (by omega) (by simpa using ha) _ (jc w [a] 9 (by simp)));obtain⟨r,hr⟩:=nm (bstr (trH 78 (dt [a])));rw[hr]at HF⊢;clear hr;have HB:=Hq ((Below.refl w.heap.size w).alloc nlr (.cells #[.string a] 9));go_enter Tryz.func116,Tryz.ntmps116;go_wp2_with fail;refine HF.out.mono ?_;rintro e w1 ⟨rfl,hb⟩;have HB1:=bt HB hb;clear hb;go_wp2;go_ret;exact⟨rfl,HB1.out⟩
theorem zyd(a b c:ByteArray)(ha:a.size≤1000000)(hb:b.size≤1000000)(hc:c.size≤1000000)(w:World):Calls Tryz.prog 119 #[.string a,.string b,.string c] w (Ret (.string (bstr (trH 65 (dt [a,b,c])))) w):=by
 have HF:=Hq (zh8 65 _ 3 3 [a,b,c] (by omega) (by simp;exact⟨ha,hb,hc⟩) _ (jc w [a,b,c] 9 (by simp)));obtain⟨r,hr⟩:=nm (bstr (trH 65 (dt [a,b,c])));rw[hr]at HF⊢;clear hr;have HB:=Hq ((Below.refl w.heap.size w).alloc nlr (.cells #[.string a,.string b,.string c] 9));clear ha hb hc;go_enter Tryz.func119,Tryz.ntmps119;go_wp2_with fail;refine HF.out.mono ?_;rintro e w1 ⟨rfl,hb⟩;have HB1:=bt HB hb;clear hb;go_wp2;go_ret;exact⟨rfl,HB1.out⟩
theorem zqr(a b:ByteArray)(A1:Option Addr)(n1 c1:Nat)(l1:List ByteArray)(ha:a.size≤1000000)(hb:b.size≤1000000)(hn:n1≤900)(hz:∀ s∈l1,s.size≤1000000)(w:World)(h1:SlN w A1 n1 c1 l1):Calls Tryz.prog 117 #[.string a,.string b,.slice A1 n1 c1] w (Ret (.string (bstr (trH 76 (dt ([a,b]++l1))))) w):=by
 have hbb:=(Below.refl w.heap.size w).alloc nlr (.cells #[.string a,.string b] 9);have HF:=Hq (zo4 76 _ 2 2 [a,b] A1 n1 c1 l1 (by omega) (by
  intro s hs;rcases List.mem_append.1 hs with h | h
  · simp at h;rcases h with rfl | rfl<;>assumption
  · exact hz s h) _ (zqv w [a,b] (by simp)) (h1.kept hbb nlr))
 obtain⟨r,hr⟩:=nm (bstr (trH 76 (dt ([a,b]++l1))));rw[hr]at HF⊢;have HB:=Hq hbb;clear hr hbb ha hb h1 hn hz;go_enter Tryz.func117,Tryz.ntmps117;go_wp2_with fail;refine HF.out.mono ?_;rintro e w1 ⟨rfl,hb⟩;have HB1:=bt HB hb;clear hb;go_wp2;go_ret;exact⟨rfl,HB1.out⟩
end Go.Proofs.YtppbcopnfankcaaGreat

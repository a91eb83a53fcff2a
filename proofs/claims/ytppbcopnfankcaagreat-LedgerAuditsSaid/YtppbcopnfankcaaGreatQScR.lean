import Derived.Test.YtppbcopnfankcaaGreatQScC
set_option linter.unusedVariables false
set_option linter.unusedSimpArgs false
namespace Go.Proofs.YtppbcopnfankcaaGreat
set_option maxRecDepth 100000
set_option maxHeartbeats 1000000
open Go.RowKit Go.Lib
theorem zej{x y:Nat}:(cmpI x y<0)=(x<y):=by
 unfold cmpI;rw[eq_iff_iff];split
 · simp_all
 · split<;>simp_all
def SG(w W:World)(M O G Y c r:ByteArray):Prop:=SB w W M O G Y∧Bx2 W (w.heap.size+1) (.string c) (.string r) 33
theorem SG.new(w:World)(M O G Y c r:ByteArray):SG w ((w.alloc (.cells #[.string M,.string O,.string G,.string Y] 29)).alloc (.cells #[.string c,.string r] 33)) M O G Y c r:=by
 refine⟨(SB.new w M O G Y).next ((blr).alloc nlr _),?_⟩;have:=Bx2.new (w.alloc (.cells #[.string M,.string O,.string G,.string Y] 29)) (.string c) (.string r) 33;rwa[World.size_alloc]at this
theorem SG.next{w W W':World}{M O G Y c r:ByteArray}(h:SG w W M O G Y c r)(hb:Below W.heap.size W W'):SG w W' M O G Y c r:=⟨h.1.next hb,h.2.next hb⟩
theorem ztu(M O G Y c r:ByteArray)(vO:zc O=true)(vc:zc c=true)(vr:zc r=true)(w:World):Calls Tryz.prog 75 #[kV M O G Y,.agg #[.string c,.string r]] w (Ret (.bool (decide (num c<num O∧num r<num O))) w):=by
 have lO:=jk vO;have lc:=jk vc;have lr:=jk vr;have HC1:=Hq (jw (nS (num c)) (nS (num O)) (by have:=ze.2 lc;omega) (by have:=ze.2 lO;omega));have HC2:=Hq (jw (nS (num r)) (nS (num O)) (by have:=ze.2 lr;omega) (by have:=ze.2 lO;omega));rw[zcy lc lO,←zu vc,←zu vO]at HC1;rw[zcy lr lO,←zu vr,←zu vO]at HC2;have h1:=zej (x:=num c) (y:=num O);have h2:=zej (x:=num r) (y:=num O);obtain⟨k1,hk1⟩:=nm (cmpI (num c) (num O));obtain⟨k2,hk2⟩:=nm (cmpI (num r) (num O));rw[hk1]at HC1 h1;rw[hk2]at HC2 h2;have HX0:=Hq (SG.new w M O G Y c r);obtain⟨W0,hW0⟩:=nm ((w.alloc (.cells #[.string M,.string O,.string G,.string Y] 29)).alloc (.cells #[.string c,.string r] 33));rw[hW0]at HX0;obtain⟨c0,c1,c2,c3⟩:=HX0.out.1.1.cells;have d0:=HX0.out.2.c0;have d1:=HX0.out.2.c1;by_cases ha:num c<num O
 · have hneg:k1<0:=by rw[h1];exact ha
   have HR:=Hq (show decide (num c<num O∧num r<num O)=decide (k2<0)from by
    rw[decide_eq_decide,h2];exact⟨fun h=>h.2,fun h=>⟨ha,h⟩⟩)
   rw[HR.out];unfold kV;clear hk1 hk2 h1 h2 ha lO lc lr;go_enter Tryz.func75,Tryz.ntmps75;go_wp2_with fail;try rw[hW0]
   clear hW0;refine(HC1.out _).mono ?_;rintro ev w1 ⟨rfl,rfl⟩;go_wp2_with fail;refine(HC2.out _).mono ?_;rintro ev w2 ⟨rfl,rfl⟩;go_wp2;go_ret;exact⟨rfl,HX0.out.1.2⟩
 · have hneg:¬ (k1<0):=by rw[h1];exact ha
   have HR:=Hq (show decide (num c<num O∧num r<num O)=false from decide_eq_false fun h=>ha h.1);rw[HR.out];unfold kV;clear hk1 hk2 h1 h2 ha lO lc lr;go_enter Tryz.func75,Tryz.ntmps75;go_wp2_with fail;try rw[hW0]
   clear hW0;refine(HC1.out _).mono ?_;rintro ev w1 ⟨rfl,rfl⟩;go_wp2;go_ret;exact⟨rfl,HX0.out.1.2⟩
theorem znf{M O G Y:ByteArray}(h:scK M O G Y=0):[M,O,G,Y].all zc=true∧chkK M O=0∧num O≠0∧genK M O G=true∧genK M O Y=true:=by
 unfold scK at h;split at h
 · rename_i hv;split at h
   · rename_i hc;split at h
     · cases h
     · rename_i hn;have hn:(O.toList.isEmpty || !genK M O G || !genK M O Y)=false:=by simpa using hn
       rw[Bool.or_eq_false_iff,Bool.or_eq_false_iff]at hn;refine⟨hv,hc,fun e=>?_,by simpa using hn.1.2,by simpa using hn.2⟩;have:=hn.1.1;rw[zu (zae hv).2.1,e]at this;rw[show (nS 0).toList.isEmpty=true from zz rfl]at this;cases this
   · rename_i hc;exact absurd h hc
 · cases h
theorem zat{M O x:ByteArray}(h:genK M O x=true):hasN (num M) (num O) (num x)=true∧zc x=true∧num x≠1:=by
 unfold genK at h;rw[Bool.and_eq_true]at h;have hk:=zpy h.1;refine⟨hk.2.2,hk.2.1,fun e=>?_⟩;have:=h.2;rw[zu hk.2.1,zk6,e]at this;simp at this
set_option maxRecDepth 100000
set_option maxHeartbeats 1000000
theorem zkl(M O x e:ByteArray)(hM:M.size≤8)(vM:zc M=true)(hm:0<num M)(vx:zc x=true)(ve:zc e=true)(w:World):Calls Tryz.prog 144 #[gV M O,.string x,.string e] w (Ret (.string (nS (num x ^ num e%num M))) w):=by
 have HEX:=Hq (zrb (num x) (num e) (num M) (jk vx) (jk ve) (je hM) hm);rw[←zu vx,←zu ve,←zu vM]at HEX;obtain⟨z,hz⟩:=nm (nS (num x ^ num e%num M));rw[hz]at HEX⊢;have HX0:=Hq (Bx2.new w (.string M) (.string O) 24);have HB0:=Hq ((Below.refl w.heap.size w).alloc nlr (.cells #[.string M,.string O] 24));have c0:=HX0.out.c0;unfold gV;clear hz hM vM hm vx ve;go_enter Tryz.func144,Tryz.ntmps144;go_wp2_with fail;refine(HEX.out _).mono ?_;rintro ev w1 ⟨rfl,hb⟩;have HB1:=bt HB0 hb;clear hb c0;go_wp2;go_ret;exact⟨rfl,HB1.out⟩
def cmS(m q g y c r:Nat):Nat:=g ^ r * y ^ (q - c)%m
theorem zyi{m y i q c:Nat}(hu:Un m y i)(hp:y ^ q%m=1)(hc:c<q):pz m y (-(c:Int))=y ^ (q - c)%m:=by
 rw[←zhk];have h1:=zvp hu hp (-(c:Int));have h2:=zvp hu hp ((q - c:Nat):Int);rw[←h1,←h2];congr 1;have e:((q - c:Nat):Int) = -(c:Int)+q * 1:=by omega
 rw[e,Int.add_mul_emod_self_left]
theorem zzh{m y i q g c r:Nat}(hu:Un m y i)(hp:y ^ q%m=1)(hc:c<q):pz m g (r:Int) * pz m y (-(c:Int))%m=cmS m q g y c r:=by
 rw[zyi hu hp hc,zhk,cmS,←Nat.mul_mod]
set_option maxRecDepth 100000
set_option maxHeartbeats 2000000
theorem zze{M O G Y c r:ByteArray}(hc:chkK M O=0)(hO:0<num O)(vG:zc G=true)(vY:zc Y=true)(hG:hasN (num M) (num O) (num G)=true)(hY:hasN (num M) (num O) (num Y)=true)(vc:zc c=true)(vr:zc r=true)(hcq:num c<num O) :
 prR M O [G,Y] [(false,r),(!(c.toList.isEmpty),c)]=.tuple #[.string (nS (cmS (num M) (num O) (num G) (num Y) (num c) (num r))),.int .i64 0]:=by
 have lr:=jk vr;have lc:=jk vc;have e1:(false,r)=(decide (((num r:Nat):Int)<0),nS ((num r:Nat):Int).natAbs):=by rw[Int.natAbs_natCast,decide_eq_false (by omega),←zu vr]
 have e2:(!(c.toList.isEmpty),c)=(decide (-((num c:Nat):Int)<0),nS (-((num c:Nat):Int)).natAbs):=by
  rw[Int.natAbs_neg,Int.natAbs_natCast,←zu vc];congr 1;by_cases h:num c=0
  · rw[show c.toList.isEmpty=true from by rw[zu vc,h];exact zz rfl,h];rfl
  · rw[show c.toList.isEmpty=false from by rw[zu vc];exact zx (by omega),decide_eq_true (by omega)];rfl
 rw[e1,e2];unfold prR;rw[if_pos (show ckR M O [G,Y] [(decide (((num r:Nat):Int)<0),nS ((num r:Nat):Int).natAbs),(decide (-((num c:Nat):Int)<0),nS (-((num c:Nat):Int)).natAbs)] (decide ([G,Y].length=[(decide (((num r:Nat):Int)<0),nS ((num r:Nat):Int).natAbs),(decide (-((num c:Nat):Int)<0),nS (-((num c:Nat):Int)).natAbs)].length))=0 from zxs vG vY (zdb (by rw[Int.natAbs_natCast];exact lr)) (zdb (by rw[Int.natAbs_neg,Int.natAbs_natCast];exact lc)) hc hG hY)];have e:prV (num M) [G,Y] [(decide (((num r:Nat):Int)<0),nS ((num r:Nat):Int).natAbs),(decide (-((num c:Nat):Int)<0),nS (-((num c:Nat):Int)).natAbs)]=cmS (num M) (num O) (num G) (num Y) (num c) (num r):=by
  show zcm (num G) (decide (((num r:Nat):Int)<0)) (num M) ^ (num (nS ((num r:Nat):Int).natAbs) / 2 ^ 0) * (zcm (num Y) (decide (-((num c:Nat):Int)<0)) (num M) ^ (num (nS (-((num c:Nat):Int)).natAbs) / 2 ^ 0) * 1)%num M=_;rw[zaa,zaa,Nat.pow_zero,Nat.div_one,Nat.div_one,Nat.mul_one,zyh];have hcn:chkN (num M) (num O)=0:=(ju hc).2.2;obtain⟨i,hu⟩:=zlk hcn hY;exact zzh hu (zsa hO hY) hcq
 rw[e]
def BoxC(W:World)(B:Nat)(s:ByteArray):Prop:=W.heap[B]? =some (.cells #[.string s] 128 (0,0))
theorem BoxC.nextC{W W':World}{B:Nat}{s:ByteArray}(h:BoxC W B s)(hb:Below W.heap.size W W'):BoxC W' B s:=(hb.block _ (zn h)).trans h
theorem BoxC.c{W:World}{B:Nat}{s:ByteArray}(h:BoxC W B s):W.cell? ⟨B,0,none⟩=some (.string s):=by rw[Lib.cell_of_heap h];rfl
theorem BoxC.f{W:World}{B:Nat}{s:ByteArray}(h:BoxC W B s):W.frozen? ⟨B,0,none⟩=false:=Lib.frozen_of_heap h 0
theorem BoxC.set{W:World}{B:Nat}{s t:ByteArray}(h:BoxC W B s):BoxC (W.setCell ⟨B,0,none⟩ (.string t)) B t:=zl h _
theorem zeu(M O G Y c r:ByteArray)(hM:M.size≤8)(hk:scK M O G Y=0)(vc:zc c=true)(vr:zc r=true)(hcq:num c<num O)(w:World):Calls Tryz.prog 77 #[kV M O G Y,.agg #[.string c,.string r]] w (Ret (.agg #[.string (nS (cmS (num M) (num O) (num G) (num Y) (num c) (num r)))]) w):=by
 obtain⟨hv,hc,hz,hg,hy⟩:=znf hk;obtain⟨v1,v2,v3,v4⟩:=zae hv;have h8:=zay hv hM hc;have hpr:=zze (M:=M) (O:=O) (G:=G) (Y:=Y) (c:=c) (r:=r) hc (by omega) v3 v4 (zat hg).1 (zat hy).1 vc vr hcq;obtain⟨z,hz2⟩:=nm (nS (cmS (num M) (num O) (num G) (num Y) (num c) (num r)));rw[hz2]at hpr⊢;obtain⟨nz,hnz⟩:=nm (c.toList.isEmpty);rw[hnz]at hpr;have sz:∀ {s:ByteArray},zc s=true→s.size≤1000:=fun h=>by rw[zu h];have:=ze.2 (jk h);omega
 have sG:=sz v3;have sY:=sz v4;have sc:=sz vc;have sr:=sz vr;have HPR:=Hq (fun A B w hl hz=>zhm M O [G,Y] [(false,r),(!nz,c)] A B 2 2 2 2 hM h8 (by intro s hs;simp at hs;rcases hs with h | h<;>subst h<;>assumption) (by intro t ht;simp at ht;rcases ht with h | h<;>subst h<;>assumption) (by omega) (by omega) w hl hz);rw[hpr]at HPR
 -- the boxes
 have hx0:=SG.new w M O G Y c r;obtain⟨W0,hW0⟩:=nm ((w.alloc (.cells #[.string M,.string O,.string G,.string Y] 29)).alloc (.cells #[.string c,.string r] 33));rw[hW0]at hx0;have hsz0:W0.heap.size=w.heap.size+1+1:=by rw[←hW0];simp
 have hb1:=(Below.refl W0.heap.size W0).alloc nlr (.cells #[.string ⟨#[]⟩] 128);have hx1:=hx0.next hb1;have hr1:BoxC (W0.alloc (.cells #[.string ⟨#[]⟩] 128)) W0.heap.size ⟨#[]⟩:=heap_alloc_new _ _;obtain⟨W1,hW1⟩:=nm (W0.alloc (.cells #[.string ⟨#[]⟩] 128));rw[hW1]at hx1 hr1;obtain⟨B,hB⟩:=nm (W0.heap.size);rw[hB]at hr1;have hsl:=jc W1 [G,Y] 22 (by simp);have hb2:=(Below.refl W1.heap.size W1).alloc nlr (.cells #[.string G,.string Y] 22);have hx2:=hx1.next hb2;have hr2:=hr1.nextC hb2;obtain⟨W2,hW2⟩:=nm (W1.alloc (.cells #[.string G,.string Y] 22));have hslz:=zo6 W2 false (!nz) r c 156;have hsl2:SlN W2 (some ⟨W1.heap.size,0,none⟩) 2 2 [G,Y]:=hW2▸hsl;rw[hW2]at hx2 hr2;have hb3:=(Below.refl W2.heap.size W2).alloc nlr (.cells #[.bool false,.string r,.bool (!nz),.string c] 156);have HPP:=Hq (HPR.out _ _ _ (hsl2.kept hb3 nlr) hslz);have HX3:=Hq (hx2.next hb3);have HR3:=Hq (hr2.nextC hb3);obtain⟨c0,c1,c2,c3⟩:=hx1.1.1.cells;obtain⟨e0,e1,e2,e3⟩:=hx2.1.1.cells;have d0:=hx2.2.c0;have d1:=hx2.2.c1;have HBB:=Hq (show w.heap.size≤B from by omega);clear hx0 hx1 hx2 hr1 hr2 hb1 hb2 hb3 hsl hsl2 hslz hpr hz2 sG sY sc sr sz hv hc hz hg hy v1 v2 v3 v4 h8 hk hM vc vr hcq;unfold kV gV at *;go_enter Tryz.func77,Tryz.ntmps77;go_wp2_with fail;refine HPP.out.mono ?_;rintro en w' ⟨rfl,hb'⟩;have HR4:=Hq (HR3.out.nextC hb');have HX4:=Hq (HX3.out.next hb');have HBl:=Hq (show w.heap.size<w'.heap.size from by have:=HX3.out.next hb';exact this.1.1.lt);have hbe:B=w.heap.size+1+1:=by omega
 subst hbe;have r0:=HR4.out.c;have r1:=HR4.out.f;go_wp2_with fail;have q0:=(HR4.out.set (t:=z)).c;exact bodyPost_ret (v:=.agg #[.string z]) (by simp[results,Tryz.results77,go_sem,q0]) rfl ⟨rfl,HX4.out.1.2.setCell (p:=⟨w.heap.size+1+1,0,none⟩) (show w.heap.size≤w.heap.size+1+1 by omega) _⟩
set_option maxRecDepth 100000
set_option maxHeartbeats 2000000
def sgL:ByteArray:=⟨#[115,99,104,110,111,114,114,32,115,105,103,110,97,116,117,114,101]⟩
def keyL:ByteArray:=⟨#[107,101,121]⟩
def comL:ByteArray:=⟨#[99,111,109,109,105,116,109,101,110,116]⟩
def mesL:ByteArray:=⟨#[109,101,115,115,97,103,101]⟩
theorem zoj(M O G Y R msg:ByteArray):trH 65 (dt [bstr (trH 76 (dt ([bstr (trH 76 (dt ([bstr (trH 78 (dt [sgL])),keyL]++[M,O,G,Y]))),comL]++[R]))),mesL,msg])=snL M.data.toList O.data.toList G.data.toList Y.data.toList R.data.toList msg.data.toList:=by
 simp only[dt,List.map_cons,List.map_nil,List.cons_append,List.nil_append,jn];rfl
theorem trs(k:UInt8)(l:List (List UInt8)):(bstr (trH k l)).size≤1000000:=by rw[zm,zdd];decide
theorem zn2{M O G Y:ByteArray}{m:Nat}(h1:M.size≤m)(h2:O.size≤m)(h3:G.size≤m)(h4:Y.size≤m):∀ s∈[M,O,G,Y],s.size≤m:=by
 intro s hs;simp at hs;rcases hs with rfl | rfl | rfl | rfl<;>assumption
theorem zkd(M O G Y R msg:ByteArray)(hM:M.size≤8)(hO:O.size≤8)(hG:G.size≤1000000)(hY:Y.size≤1000000)(hR:R.size≤1000000)(hm:msg.size≤1000000)(vO:zc O=true)(h0:0<num O)(w:World) :
 Calls Tryz.prog 76 #[kV M O G Y,.string R,.string msg] w (Ret (.string (nS (chL (snL M.data.toList O.data.toList G.data.toList Y.data.toList R.data.toList msg.data.toList) O.size (num O)))) w):=by
 obtain⟨s1,hs1⟩:=nm (bstr (trH 78 (dt [sgL])));obtain⟨s2,hs2⟩:=nm (bstr (trH 76 (dt ([s1,keyL]++[M,O,G,Y]))));obtain⟨s3,hs3⟩:=nm (bstr (trH 76 (dt ([s2,comL]++[R]))));obtain⟨s4,hs4⟩:=nm (bstr (trH 65 (dt [s3,mesL,msg])));have z1:s1.size≤1000000:=by rw[←hs1];exact trs _ _
 have z2:s2.size≤1000000:=by rw[←hs2];exact trs _ _
 have z3:s3.size≤1000000:=by rw[←hs3];exact trs _ _
 have z4:s4.size≤1000000:=by rw[←hs4];exact trs _ _
 have hst:s4.data.toList=snL M.data.toList O.data.toList G.data.toList Y.data.toList R.data.toList msg.data.toList:=(by rw[←hs4,jn,←hs3,←hs2,←hs1,zoj]);have H1:=Hq (zyc sgL (by decide));rw[hs1]at H1;have H2:=Hq (fun w1=>zqr s1 keyL (some ⟨World.heap w1 |>.size,0,none⟩) 4 4 [M,O,G,Y] z1 (by decide) (by omega) (zn2 (by omega) (by omega) hG hY) _ (jc w1 [M,O,G,Y] 22 (by simp)));rw[hs2]at H2;have H3:=Hq (fun w1=>zqr s2 comL (some ⟨World.heap w1 |>.size,0,none⟩) 1 1 [R] z2 (by decide) (by omega) (by simpa using hR) _ (jc w1 [R] 22 (by simp)));rw[hs3]at H3;have H4:=Hq (zyd s3 mesL msg z3 (by decide) hm);rw[hs4]at H4;have H5:=Hq (zj5 s4 O z4 vO h0 hO);rw[hst]at H5;obtain⟨r,hr⟩:=nm (nS (chL (snL M.data.toList O.data.toList G.data.toList Y.data.toList R.data.toList msg.data.toList) O.size (num O)));rw[hr]at H5⊢;have HX0:=Hq (SB.new w M O G Y);obtain⟨W0,hW0⟩:=nm (w.alloc (.cells #[.string M,.string O,.string G,.string Y] 29));rw[hW0]at HX0;obtain⟨c0,c1,c2,c3⟩:=HX0.out.1.cells;unfold kV;clear hs1 hs2 hs3 hs4 z1 z2 z3 z4 hst hr vO h0;go_enter Tryz.func76,Tryz.ntmps76;go_wp2_with fail;try rw[hW0]
 clear hW0;refine(H1.out _).mono ?_;rintro ev w1 ⟨rfl,hb⟩;have HX1:=Hq (HX0.out.next hb);clear hb c0 c1 c2 c3;obtain⟨c0,c1,c2,c3⟩:=HX1.out.1.cells;have HX2:=Hq (HX1.out.next ((Below.refl w1.heap.size w1).alloc nlr (.cells #[.string M,.string O,.string G,.string Y] 22)));go_wp2_with fail;refine(H2.out _).mono ?_;rintro ev w2 ⟨rfl,hb⟩;have HX3:=Hq (HX2.out.next hb);clear hb c0 c1 c2 c3;have HX4:=Hq (HX3.out.next ((Below.refl w2.heap.size w2).alloc nlr (.cells #[.string R] 22)));go_wp2_with fail;refine(H3.out _).mono ?_;rintro ev w3 ⟨rfl,hb⟩;have HX5:=Hq (HX4.out.next hb);clear hb;go_wp2;obtain⟨wd,hwd⟩:=nm (w3.drew);have HXD:=Hq (show SB w wd M O G Y from by rw[←hwd];exact HX5.out.next (blr).drew);obtain⟨c0,c1,c2,c3⟩:=HXD.out.1.cells;refine za 12 (Below (wd).heap.size (wd)) (by kernel_rfl) ?_;rw[hwd];refine rPs 0 29 11 blr ?_;refine rPs 1 30 10 blr ?_;refine rPs 3 32 9 blr ?_;refine rPs 4 33 8 blr ?_;refine rTs 5 34 7 blr (k4 c0 c1 c2 c3) ?_;refine rO 2 6 ?_;intro K2 hK2;go_wp2_with fail;refine(H4.out _).mono ?_;rintro ev w4 ⟨rfl,hb⟩;have HB2:=Hq hb;clear hb;go_wp2;refine hK2 _ _ (by exact HB2.out) ?_;clear hK2;intro hS_4_2;refine rO 6 5 ?_;intro K6 hK6;go_wp2_with fail;refine(H5.out _).mono ?_;rintro ev w5 ⟨rfl,hb⟩;have HB6:=Hq hb;clear hb;go_wp2;refine hK6 _ _ (by exact Below.trans hS_4_2 (Below.mono HB6.out (Below.size hS_4_2))) ?_;clear hK6;intro hS_4_6;refine rPs 7 28 4 hS_4_6 ?_;refine rPs 8 36 3 hS_4_6 ?_;refine rPs 9 37 2 hS_4_6 ?_;refine rO 10 1 ?_;intro K10 hK10;go_wp2;refine hK10 _ _ (by exact hS_4_6) ?_;clear hK10;intro hS_4_10;refine rO 11 0 ?_;intro K11 hK11;go_wp2;refine hK11 _ _ (by exact hS_4_10) ?_;clear hK11;intro hS_4_11;have HL:=Hq hS_4_11;refine wDn ?_;go_wp2;go_ret;exact⟨rfl,(HXD.out.next HL.out).2⟩
theorem zin(M O G Y R msg:ByteArray)(hM:M.size≤8)(hO:O.size≤8)(hG:G.size≤1000000)(hY:Y.size≤1000000)(hR:R.size≤1000000)(hm:msg.size≤1000000)(vO:zc O=true)(h0:0<num O)(w:World) :
 Calls Tryz.prog 93 #[kV M O G Y,.string R,.string msg] w (Ret (.string (nS (chL (snL M.data.toList O.data.toList G.data.toList Y.data.toList R.data.toList msg.data.toList) O.size (num O)))) w):=by
 obtain⟨s1,hs1⟩:=nm (bstr (trH 78 (dt [sgL])));obtain⟨s2,hs2⟩:=nm (bstr (trH 76 (dt ([s1,keyL]++[M,O,G,Y]))));obtain⟨s3,hs3⟩:=nm (bstr (trH 76 (dt ([s2,comL]++[R]))));obtain⟨s4,hs4⟩:=nm (bstr (trH 65 (dt [s3,mesL,msg])));have z1:s1.size≤1000000:=by rw[←hs1];exact trs _ _
 have z2:s2.size≤1000000:=by rw[←hs2];exact trs _ _
 have z3:s3.size≤1000000:=by rw[←hs3];exact trs _ _
 have z4:s4.size≤1000000:=by rw[←hs4];exact trs _ _
 have hst:s4.data.toList=snL M.data.toList O.data.toList G.data.toList Y.data.toList R.data.toList msg.data.toList:=(by rw[←hs4,jn,←hs3,←hs2,←hs1,zoj]);have H1:=Hq (zwm sgL (by decide));rw[hs1]at H1;have H2:=Hq (fun w1=>zni s1 keyL (some ⟨World.heap w1 |>.size,0,none⟩) 4 4 [M,O,G,Y] z1 (by decide) (by omega) (zn2 (by omega) (by omega) hG hY) _ (jc w1 [M,O,G,Y] 22 (by simp)));rw[hs2]at H2;have H3:=Hq (fun w1=>zni s2 comL (some ⟨World.heap w1 |>.size,0,none⟩) 1 1 [R] z2 (by decide) (by omega) (by simpa using hR) _ (jc w1 [R] 22 (by simp)));rw[hs3]at H3;have H4:=Hq (zwn s3 mesL msg z3 (by decide) hm);rw[hs4]at H4;have H5:=Hq (zip s4 O z4 vO h0 hO);rw[hst]at H5;obtain⟨r,hr⟩:=nm (nS (chL (snL M.data.toList O.data.toList G.data.toList Y.data.toList R.data.toList msg.data.toList) O.size (num O)));rw[hr]at H5⊢;have HX0:=Hq (SB.new w M O G Y);obtain⟨W0,hW0⟩:=nm (w.alloc (.cells #[.string M,.string O,.string G,.string Y] 29));rw[hW0]at HX0;obtain⟨c0,c1,c2,c3⟩:=HX0.out.1.cells;unfold kV;clear hs1 hs2 hs3 hs4 z1 z2 z3 z4 hst hr vO h0;go_enter Tryz.func93,Tryz.ntmps93;go_wp2_with fail;try rw[hW0]
 clear hW0;refine(H1.out _).mono ?_;rintro ev w1 ⟨rfl,hb⟩;have HX1:=Hq (HX0.out.next hb);clear hb c0 c1 c2 c3;obtain⟨c0,c1,c2,c3⟩:=HX1.out.1.cells;have HX2:=Hq (HX1.out.next ((Below.refl w1.heap.size w1).alloc nlr (.cells #[.string M,.string O,.string G,.string Y] 22)));go_wp2_with fail;refine(H2.out _).mono ?_;rintro ev w2 ⟨rfl,hb⟩;have HX3:=Hq (HX2.out.next hb);clear hb c0 c1 c2 c3;have HX4:=Hq (HX3.out.next ((Below.refl w2.heap.size w2).alloc nlr (.cells #[.string R] 22)));go_wp2_with fail;refine(H3.out _).mono ?_;rintro ev w3 ⟨rfl,hb⟩;have HX5:=Hq (HX4.out.next hb);clear hb;go_wp2_with fail;refine(H4.out _).mono ?_;rintro ev w4 ⟨rfl,hb⟩;have HX6:=Hq (HX5.out.next hb);clear hb;obtain⟨c0,c1,c2,c3⟩:=HX6.out.1.cells;go_wp2_with fail;refine(H5.out _).mono ?_;rintro ev w5 ⟨rfl,hb⟩;have HX7:=Hq (HX6.out.next hb);clear hb c0 c1 c2 c3;go_wp2;go_ret;exact⟨rfl,HX7.out.2⟩
end Go.Proofs.YtppbcopnfankcaaGreat

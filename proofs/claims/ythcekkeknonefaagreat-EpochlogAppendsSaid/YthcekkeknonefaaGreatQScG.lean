import Derived.Test.YthcekkeknonefaaGreatQScD
import Derived.Test.YthcekkeknonefaaGreatQPeDB
set_option linter.unusedVariables false
set_option linter.unusedSimpArgs false
namespace Go.Proofs.YthcekkeknonefaaGreat
open Go.RowKit Go.Lib
theorem scK_ok{M O G Y:ByteArray}(h:scK M O G Y=0):[M,O,G,Y].all nvalid=true∧chkK M O=0∧num O≠0∧genK M O G=true∧genK M O Y=true:=by
 unfold scK at h;split at h
 · rename_i hv;split at h
   · rename_i hc;split at h
     · cases h
     · rename_i hn;have hn:(O.toList.isEmpty || !genK M O G || !genK M O Y)=false:=by simpa using hn
       rw[Bool.or_eq_false_iff,Bool.or_eq_false_iff]at hn;refine⟨hv,hc,fun e=>?_,by simpa using hn.1.2,by simpa using hn.2⟩;have:=hn.1.1;rw[nS_num (all_four hv).2.1,e]at this;rw[show (nS 0).toList.isEmpty=true from sempty_true rfl]at this;cases this
   · rename_i hc;exact absurd h hc
 · cases h
theorem genK_parts{M O x:ByteArray}(h:genK M O x=true):hasN (num M) (num O) (num x)=true∧nvalid x=true∧num x≠1:=by
 unfold genK at h;rw[Bool.and_eq_true]at h;have hk:=hasK_parts h.1;refine⟨hk.2.2,hk.2.1,fun e=>?_⟩;have:=h.2;rw[nS_num hk.2.1,nS_is1,e]at this;simp at this
set_option maxRecDepth 100000
set_option maxHeartbeats 1000000
theorem r33_raise(M O x e:ByteArray)(hM:M.size≤8)(vM:nvalid M=true)(hm:0<num M)(vx:nvalid x=true)(ve:nvalid e=true)(w:World):Calls Tryz.prog 137 #[gV M O,.string x,.string e] w (Ret (.string (nS (num x ^ num e%num M))) w):=by
 have HEX:=Hq (r03_Exp (num x) (num e) (num M) (nvalid_lt vx) (nvalid_lt ve) (num_small hM) hm);rw[←nS_num vx,←nS_num ve,←nS_num vM]at HEX;obtain⟨z,hz⟩:∃ z,nS (num x ^ num e%num M)=z:=⟨_,rfl⟩;rw[hz]at HEX⊢;have HX0:=Hq (Bx2.new w (.string M) (.string O) 24);have HB0:=Hq ((Below.refl w.heap.size w).alloc (Nat.le_refl _) (.cells #[.string M,.string O] 24));have c0:=HX0.out.c0;unfold gV;clear hz hM vM hm vx ve;go_enter Tryz.func137,Tryz.ntmps137;go_wp2_with fail;refine(HEX.out _).mono ?_;rintro ev w1 ⟨rfl,hb⟩;have HB1:=Hq (HB0.out.trans (hb.mono HB0.out.size));clear hb c0;go_wp2;go_ret;exact⟨rfl,HB1.out⟩
def cmS(m q g y c r:Nat):Nat:=g ^ r * y ^ (q - c)%m
theorem pz_neg{m y i q c:Nat}(hu:Un m y i)(hp:y ^ q%m=1)(hc:c<q):pz m y (-(c:Int))=y ^ (q - c)%m:=by
 rw[←pz_nat];have h1:=pz_red hu hp (-(c:Int));have h2:=pz_red hu hp ((q - c:Nat):Int);rw[←h1,←h2];congr 1;have e:((q - c:Nat):Int) = -(c:Int)+q * 1:=by omega
 rw[e,Int.add_mul_emod_self_left]
theorem cmS_pz{m y i q g c r:Nat}(hu:Un m y i)(hp:y ^ q%m=1)(hc:c<q):pz m g (r:Int) * pz m y (-(c:Int))%m=cmS m q g y c r:=by
 rw[pz_neg hu hp hc,pz_nat,cmS,←Nat.mul_mod]
set_option maxRecDepth 100000
set_option maxHeartbeats 2000000
theorem ex_two{M O G Y c r:ByteArray}(hc:chkK M O=0)(hO:0<num O)(vG:nvalid G=true)(vY:nvalid Y=true)(hG:hasN (num M) (num O) (num G)=true)(hY:hasN (num M) (num O) (num Y)=true)(vc:nvalid c=true)(vr:nvalid r=true)(hcq:num c<num O) :
 prR M O [G,Y] [(false,r),(!(c.toList.isEmpty),c)]=.tuple #[.string (nS (cmS (num M) (num O) (num G) (num Y) (num c) (num r))),.int .i64 0]:=by
 have lr:=nvalid_lt vr;have lc:=nvalid_lt vc;have e1:(false,r)=(decide (((num r:Nat):Int)<0),nS ((num r:Nat):Int).natAbs):=by rw[Int.natAbs_natCast,decide_eq_false (by omega),←nS_num vr]
 have e2:(!(c.toList.isEmpty),c)=(decide (-((num c:Nat):Int)<0),nS (-((num c:Nat):Int)).natAbs):=by
  rw[Int.natAbs_neg,Int.natAbs_natCast,←nS_num vc];congr 1;by_cases h:num c=0
  · rw[show c.toList.isEmpty=true from by rw[nS_num vc,h];exact sempty_true rfl,h];rfl
  · rw[show c.toList.isEmpty=false from by rw[nS_num vc];exact empty_nS (by omega),decide_eq_true (by omega)];rfl
 rw[e1,e2];unfold prR;rw[if_pos (show ckR M O [G,Y] [(decide (((num r:Nat):Int)<0),nS ((num r:Nat):Int).natAbs),(decide (-((num c:Nat):Int)<0),nS (-((num c:Nat):Int)).natAbs)] (decide ([G,Y].length=[(decide (((num r:Nat):Int)<0),nS ((num r:Nat):Int).natAbs),(decide (-((num c:Nat):Int)<0),nS (-((num c:Nat):Int)).natAbs)].length))=0 from cka_two vG vY (zvalid_all (by rw[Int.natAbs_natCast];exact lr)) (zvalid_all (by rw[Int.natAbs_neg,Int.natAbs_natCast];exact lc)) hc hG hY)];have e:prV (num M) [G,Y] [(decide (((num r:Nat):Int)<0),nS ((num r:Nat):Int).natAbs),(decide (-((num c:Nat):Int)<0),nS (-((num c:Nat):Int)).natAbs)]=cmS (num M) (num O) (num G) (num Y) (num c) (num r):=by
  show baseN (num G) (decide (((num r:Nat):Int)<0)) (num M) ^ (num (nS ((num r:Nat):Int).natAbs) / 2 ^ 0) * (baseN (num Y) (decide (-((num c:Nat):Int)<0)) (num M) ^ (num (nS (-((num c:Nat):Int)).natAbs) / 2 ^ 0) * 1)%num M=_;rw[num_nS,num_nS,Nat.pow_zero,Nat.div_one,Nat.div_one,Nat.mul_one,pz_two];have hcn:chkN (num M) (num O)=0:=(chkK_parts hc).2.2;obtain⟨i,hu⟩:=has_un hcn hY;exact cmS_pz hu (has_ord hO hY) hcq
 rw[e]
def BoxC(W:World)(B:Nat)(s:ByteArray):Prop:=W.heap[B]? =some (.cells #[.string s] 127 (0,0))
theorem BoxC.nextC{W W':World}{B:Nat}{s:ByteArray}(h:BoxC W B s)(hb:Below W.heap.size W W'):BoxC W' B s:=(hb.block _ (block_lt h)).trans h
theorem BoxC.c{W:World}{B:Nat}{s:ByteArray}(h:BoxC W B s):W.cell? ⟨B,0,none⟩=some (.string s):=by rw[Lib.cell_of_heap h];rfl
theorem BoxC.f{W:World}{B:Nat}{s:ByteArray}(h:BoxC W B s):W.frozen? ⟨B,0,none⟩=false:=Lib.frozen_of_heap h 0
theorem BoxC.set{W:World}{B:Nat}{s t:ByteArray}(h:BoxC W B s):BoxC (W.setCell ⟨B,0,none⟩ (.string t)) B t:=block_setCell h _
theorem sc_commitmentOf(M O G Y c r:ByteArray)(hM:M.size≤8)(hk:scK M O G Y=0)(vc:nvalid c=true)(vr:nvalid r=true)(hcq:num c<num O)(w:World):Calls Tryz.prog 65 #[kV M O G Y,.agg #[.string c,.string r]] w (Ret (.agg #[.string (nS (cmS (num M) (num O) (num G) (num Y) (num c) (num r)))]) w):=by
 obtain⟨hv,hc,hz,hg,hy⟩:=scK_ok hk;obtain⟨v1,v2,v3,v4⟩:=all_four hv;have h8:=chk_small hv hM hc;have hpr:=ex_two (M:=M) (O:=O) (G:=G) (Y:=Y) (c:=c) (r:=r) hc (by omega) v3 v4 (genK_parts hg).1 (genK_parts hy).1 vc vr hcq;obtain⟨z,hz2⟩:∃ z,nS (cmS (num M) (num O) (num G) (num Y) (num c) (num r))=z:=⟨_,rfl⟩;rw[hz2]at hpr⊢;obtain⟨nz,hnz⟩:∃ b,c.toList.isEmpty=b:=⟨_,rfl⟩;rw[hnz]at hpr;have sz:∀ {s:ByteArray},nvalid s=true→s.size≤1000:=fun h=>by rw[nS_num h];have:=nS_size_le.2 (nvalid_lt h);omega
 have sG:=sz v3;have sY:=sz v4;have sc:=sz vc;have sr:=sz vr;have HPR:=Hq (fun A B w hl hz=>pw_Product M O [G,Y] [(false,r),(!nz,c)] A B 2 2 2 2 hM h8 (by intro s hs;simp at hs;rcases hs with h | h<;>subst h<;>assumption) (by intro t ht;simp at ht;rcases ht with h | h<;>subst h<;>assumption) (by omega) (by omega) w hl hz);rw[hpr]at HPR
 -- the boxes
 have hx0:=SG.new w M O G Y c r;obtain⟨W0,hW0⟩:∃ W,(w.alloc (.cells #[.string M,.string O,.string G,.string Y] 26)).alloc (.cells #[.string c,.string r] 30)=W:=⟨_,rfl⟩;rw[hW0]at hx0;have hsz0:W0.heap.size=w.heap.size+1+1:=by rw[←hW0];simp
 have hb1:=(Below.refl W0.heap.size W0).alloc (Nat.le_refl _) (.cells #[.string ⟨#[]⟩] 127);have hx1:=hx0.next hb1;have hr1:BoxC (W0.alloc (.cells #[.string ⟨#[]⟩] 127)) W0.heap.size ⟨#[]⟩:=heap_alloc_new _ _;obtain⟨W1,hW1⟩:∃ W,W0.alloc (.cells #[.string ⟨#[]⟩] 127)=W:=⟨_,rfl⟩;rw[hW1]at hx1 hr1;obtain⟨B,hB⟩:∃ B,W0.heap.size=B:=⟨_,rfl⟩;rw[hB]at hr1;have hsl:=sln_alloc W1 [G,Y] 22 (by simp);have hb2:=(Below.refl W1.heap.size W1).alloc (Nat.le_refl _) (.cells #[.string G,.string Y] 22);have hx2:=hx1.next hb2;have hr2:=hr1.nextC hb2;obtain⟨W2,hW2⟩:∃ W,W1.alloc (.cells #[.string G,.string Y] 22)=W:=⟨_,rfl⟩;have hslz:=slz_alloc2 W2 false (!nz) r c 97;have hsl2:SlN W2 (some ⟨W1.heap.size,0,none⟩) 2 2 [G,Y]:=hW2▸hsl;rw[hW2]at hx2 hr2;have hb3:=(Below.refl W2.heap.size W2).alloc (Nat.le_refl _) (.cells #[.bool false,.string r,.bool (!nz),.string c] 97);have HPP:=Hq (HPR.out _ _ _ (hsl2.kept hb3 (Nat.le_refl _)) hslz);have HX3:=Hq (hx2.next hb3);have HR3:=Hq (hr2.nextC hb3);obtain⟨c0,c1,c2,c3⟩:=hx1.1.1.cells;obtain⟨e0,e1,e2,e3⟩:=hx2.1.1.cells;have d0:=hx2.2.c0;have d1:=hx2.2.c1;have HBB:=Hq (show w.heap.size≤B from by omega);clear hx0 hx1 hx2 hr1 hr2 hb1 hb2 hb3 hsl hsl2 hslz hpr hz2 sG sY sc sr sz hv hc hz hg hy v1 v2 v3 v4 h8 hk hM vc vr hcq;unfold kV gV at *;go_enter Tryz.func65,Tryz.ntmps65;go_wp2_with fail;refine HPP.out.mono ?_;rintro en w' ⟨rfl,hb'⟩;have HR4:=Hq (HR3.out.nextC hb');have HX4:=Hq (HX3.out.next hb');have HBl:=Hq (show w.heap.size<w'.heap.size from by have:=HX3.out.next hb';exact this.1.1.lt);have hbe:B=w.heap.size+1+1:=by omega
 subst hbe;have r0:=HR4.out.c;have r1:=HR4.out.f;go_wp2_with fail;have q0:=(HR4.out.set (t:=z)).c;exact bodyPost_ret (v:=.agg #[.string z]) (by simp[results,Tryz.results65,go_sem,q0]) rfl ⟨rfl,HX4.out.1.2.setCell (p:=⟨w.heap.size+1+1,0,none⟩) (show w.heap.size≤w.heap.size+1+1 by omega) _⟩
end Go.Proofs.YthcekkeknonefaaGreat

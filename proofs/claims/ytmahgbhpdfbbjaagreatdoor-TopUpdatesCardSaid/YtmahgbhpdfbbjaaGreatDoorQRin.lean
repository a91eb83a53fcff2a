import Derived.Test.YtmahgbhpdfbbjaaGreatDoorQEpP
set_option linter.unusedVariables false
set_option linter.unusedSimpArgs false
namespace Go.Proofs.YtmahgbhpdfbbjaaGreatDoor
open Go.RowKit
def Dl.strip(d:Dl):Dl:={ d with sc:=⟨#[]⟩,sr:=⟨#[]⟩ }
def foldJ(d:Dl):List Dl→Dl×Int
 | []=>(d,0)
 | x::l=>if (jn d x).2=0 then foldJ (jn d x).1 l else(Dl.zero,(jn d x).2)
def btw(l:List Dl)(F T:Nat):Dl×Int:=match l[F]? with
 | none=>(Dl.zero,2)
 | some d=>if T=F+1∧d.strip.msg.2≠0 then(Dl.zero,d.strip.msg.2)else foldJ d.strip ((l.drop (F+1)).take (T - (F+1)))
def bt(l:List Dl)(f t:Int):Dl×Int:=if f<0∨t≤f∨(l.length:Int)<t then(Dl.zero,2)else btw l f.toNat t.toNat
theorem len_mrg(na nb:ByteArray→Bool)(a b:List ByteArray):(mrg na nb a b).length≤a.length+b.length:=by
 fun_induction mrg na nb a b<;>simp only[List.length_nil,List.length_cons]at *<;>omega
theorem jn_ok{a b:Dl}(h:(jn a b).2=0):(jn a b).1=⟨a.fr,b.to,mrg (memB b.rm) (memB a.rm) a.ad b.ad,mrg (memB b.ad) (memB a.ad) a.rm b.rm,a.be,b.af,⟨#[]⟩,⟨#[]⟩⟩∧a.msg.2=0∧b.msg.2=0∧a.to=b.fr∧a.af=b.be∧clash a b=false:=by
 unfold jn at h⊢;by_cases h1:a.msg.2=0
 · rw[if_neg (by simpa using h1)]at h⊢;by_cases h2:b.msg.2=0
   · rw[if_neg (by simpa using h2)]at h⊢;by_cases h3:a.to=b.fr
     · rw[if_neg (by simpa using h3)]at h⊢;by_cases h4:a.af=b.be
       · rw[if_neg (by simpa using h4)]at h⊢
         cases h5:clash a b with
         | false=>rw[if_neg (by simp)];exact⟨rfl,h1,h2,h3,h4,rfl⟩
         | true=>rw[h5,if_pos rfl]at h;cases h
       · rw[if_pos h4]at h;cases h
     · rw[if_pos h3]at h;cases h
   · rw[if_pos h2]at h;exact absurd h h2
 · rw[if_pos h1]at h;exact absurd h h1
theorem jn_err{a b:Dl}(h:(jn a b).2≠0):(jn a b).1=Dl.zero:=by
 unfold jn at h⊢;split
 · rfl
 · split
   · rfl
   · split
     · rfl
     · split
       · rfl
       · split
         · rfl
         · rename_i h1 h2 h3 h4 h5;rw[if_neg h1,if_neg h2,if_neg h3,if_neg h4,if_neg h5]at h;exact absurd rfl h
theorem jn_len{a b:Dl}:(jn a b).1.ad.length≤a.ad.length+b.ad.length∧(jn a b).1.rm.length≤a.rm.length+b.rm.length:=by
 by_cases h:(jn a b).2=0
 · rw[(jn_ok h).1];exact⟨len_mrg _ _ _ _,len_mrg _ _ _ _⟩
 · rw[jn_err h];exact⟨Nat.zero_le _,Nat.zero_le _⟩
theorem jn_sz{a b:Dl}(ha:SzL a.str)(hb:SzL b.str):SzL (jn a b).1.str:=by
 by_cases h:(jn a b).2=0
 · rw[(jn_ok h).1];intro s hs;simp only[Dl.str,List.mem_append,mem_mrg,List.mem_cons,List.mem_nil_iff,or_false]at hs;rcases hs with((⟨h,_⟩ | ⟨h,_⟩) | (⟨h,_⟩ | ⟨h,_⟩)) | rfl | rfl | rfl | rfl
   · exact ha s (by unfold Dl.str;simp[h])
   · exact hb s (by unfold Dl.str;simp[h])
   · exact ha s (by unfold Dl.str;simp[h])
   · exact hb s (by unfold Dl.str;simp[h])
   · exact ha _ (by unfold Dl.str;simp)
   · exact hb _ (by unfold Dl.str;simp)
   · decide
   · decide
 · rw[jn_err h];intro s hs;simp[Dl.str,Dl.zero]at hs;subst hs;decide
theorem strip_sz{d:Dl}(h:SzL d.str):SzL d.strip.str:=by
 intro s hs;simp only[Dl.str,Dl.strip,List.mem_append,List.mem_cons,List.mem_nil_iff,or_false]at hs;rcases hs with(h' | h') | rfl | rfl | rfl | rfl
 · exact h s (by unfold Dl.str;simp[h'])
 · exact h s (by unfold Dl.str;simp[h'])
 · exact h _ (by unfold Dl.str;simp)
 · exact h _ (by unfold Dl.str;simp)
 · decide
 · decide
theorem rest_cons{l:List Dl}{i T:Nat}{x:Dl}(hx:l[i]? =some x)(hT:i<T):(l.drop i).take (T - i)=x::(l.drop (i+1)).take (T - (i+1)):=by
 obtain⟨hl,rfl⟩:=List.getElem?_eq_some_iff.1 hx;rw[List.drop_eq_getElem_cons hl,show T - i=(T - (i+1))+1 from by omega,List.take_succ_cons]
def itD:Array Value:=#[.int .i64 0,.int .i64 0,.slice none 0 0,.slice none 0 0,.string ⟨#[]⟩,.string ⟨#[]⟩,.string ⟨#[]⟩,.string ⟨#[]⟩]
set_option maxRecDepth 100000
set_option maxHeartbeats 4000000
def RetCp(d:Dl)(w:World)(e:Ending)(w':World):Prop:=∃ A n c A' n' c',e=.returned (.agg (d.arr (.slice A n c) (.slice A' n' c')))∧SlN w' A n c d.ad∧SlN w' A' n' c' d.rm∧Frs w A n∧Frs w A' n'∧Below w.heap.size w w'
theorem ep_copied(d:Dl)(A1 A2:Option Addr)(n1 c1 n2 c2:Nat)(w:World)(h1:SlN w A1 n1 c1 d.ad)(h2:SlN w A2 n2 c2 d.rm)(g1:n1≤400000)(g2:n2≤400000):Calls Tryz.prog 54 #[.agg (d.arr (.slice A1 n1 c1) (.slice A2 n2 c2))] w (RetCp d w):=by
 obtain⟨P,hP⟩:=nm (w.heap.size);obtain⟨W0,hW0⟩:=nm ((w.alloc (.cells (d.arr (.slice A1 n1 c1) (.slice A2 n2 c2)) 50)).alloc (.cells itD 50));have HP0:=Hq (show BxC W0 P #[.int .i64 d.fr,.int .i64 d.to,.slice A1 n1 c1,.slice A2 n2 c2,.string d.be,.string d.af,.string d.sc,.string d.sr] 50 from by rw[←hW0,←hP];exact(BxC.new w _ _).alloc _);have HR0:=Hq (show BxC W0 (P+1) itD 50 from by rw[←hW0,←hP];exact BxC.new1 w _ _ _);have HB0:=Hq (show Below P w W0 from by rw[←hW0,←hP];exact((blr).alloc nlr _).alloc (by simp) _);have HW0:=Hq (show P+2=W0.heap.size from by rw[←hW0,←hP];simp);have HPE:=Hq hP;have H1:=Hq (h1.kept HB0.out (Nat.le_of_eq hP));have H2:=Hq (h2.kept HB0.out (Nat.le_of_eq hP));have x2:W0.drew.cell? ⟨P,2,none⟩=some (.slice A1 n1 c1):=HP0.out.cell 2;have x3:W0.drew.cell? ⟨P,3,none⟩=some (.slice A2 n2 c2):=HP0.out.cell 3;have H1d:=Hq (show SlN W0.drew A1 n1 c1 d.ad from H1.out.kept (blr).drew nlr);have H2d:=Hq (show SlN W0.drew A2 n2 c2 d.rm from H2.out.kept (blr).drew nlr);clear h1 h2;unfold Dl.arr itD at hW0;unfold Dl.arr;go_enter Tryz.func54,Tryz.ntmps54;go_wp2;refine wp_region_K 7 (Below (W0.drew).heap.size (W0.drew)) (by kernel_rfl) ?_;refine qPDs 0 3 9 blr ?_;refine qTDs 1 4 8 blr (fun w' hS'=>(And.intro (kc hS' x2) (kc hS' x3))) ?_;refine qPDs 3 6 7 blr ?_;refine qTDs 4 7 6 blr (fun w' hS'=>(And.intro (kc hS' x2) (kc hS' x3))) ?_;refine oO 2 5 ?_;intro K2 hK2;go_wp2_with fail;refine(cl_nats d.ad A1 n1 c1 _ (H1d.out.kept blr nlr) (by omega)).mono ?_;rintro e w1 ⟨v3,rfl,hown,hb⟩;obtain⟨A3,c3,rfl,hs3,hf3⟩:=own_sln hown;have HB2:=Hq hb;have HS3:=Hq hs3;have HF3:=Hq hf3;clear hown hb hs3 hf3;go_wp2;refine hK2 _ _ (by exact HB2.out) ?_;clear hK2;intro hS_1_2;refine qPDs 6 9 4 hS_1_2 ?_;refine oO 5 3 ?_;intro K5 hK5;go_wp2_with fail;refine(cl_nats d.rm A2 n2 c2 _ (H2d.out.kept hS_1_2 nlr) (by omega)).mono ?_;rintro e w2 ⟨v4,rfl,hown,hb⟩;obtain⟨A4,c4,rfl,hs4,hf4⟩:=own_sln hown;have HB5:=Hq hb;have HS4:=Hq hs4;have HF4:=Hq hf4;have hbl:=Below.trans hS_1_2 (Below.mono hb (Below.size hS_1_2));have HS32:=Hq (HS3.out.kept hb nlr);have HP2:=Hq (show BxC w2 P _ _ from(show BxC W0.drew P _ _ from HP0.out).next hbl);have HR2:=Hq (show BxC w2 (P+1) _ _ from(show BxC W0.drew (P+1) _ _ from HR0.out).next hbl);have HG:=Hq (show W0.heap.size≤w1.heap.size from HB2.out.size);have HL2:=Hq (show Below P w w2 from HB0.out.trans ((((blr).drew).trans hbl).mono (show P≤W0.heap.size from by have:=HW0.out;omega)));have y2:w2.cell? ⟨P,2,none⟩=some (.slice A1 n1 c1):=HP2.out.cell 2;have f2:=HP2.out.free 2;clear hown hb hs4 hf4 hbl x2 x3;go_wp2;refine hK5 _ _ (by exact Below.trans hS_1_2 (Below.mono HB5.out (Below.size hS_1_2))) ?_;clear hK5;intro hS_1_5;refine oT 7 2 ?_;intro K7 hK7;go_wp2;refine hK7 _ _ ?_;clear hK7;intro hD;refine wpAnyK_pureTD (i:=8) (d:=some 10) (v:=?v1_8b1) (fuel:=1) rfl (by kernel_rfl) (by kernel_rfl) (by kernel_rfl) (fun _ _ _ h=>h) hD (.inl ⟨by kernel_rfl,?y1_8b1⟩) ?n1_8b1
 case y1_8b1=>intro w' _;go_simp;with_reducible rfl
 simp only[Act.put,sqA,sqB,sqC];refine oT 9 0 ?_;intro K9 hK9;have y3:(w2.setCell ⟨P,2,none⟩ (.slice A3 n1 c3)).cell? ⟨P,3,none⟩=some (.slice A2 n2 c2):=(HP2.out.set (k:=2) (.slice A3 n1 c3)).cell 3;have f3:=(HP2.out.set (k:=2) (.slice A3 n1 c3)).free 3;go_wp2;refine hK9 _ _ ?_;clear hK9;refine wDn ?_;have HP3:=Hq (show BxC ((w2.setCell ⟨P,2,none⟩ (.slice A3 n1 c3)).setCell ⟨P,3,none⟩ (.slice A4 n2 c4)) P #[.int .i64 d.fr,.int .i64 d.to,.slice A3 n1 c3,.slice A4 n2 c4,.string d.be,.string d.af,.string d.sc,.string d.sr] 50 from(HP2.out.set (k:=2) (.slice A3 n1 c3)).set (k:=3) (.slice A4 n2 c4));have HR3:=Hq (show BxC ((w2.setCell ⟨P,2,none⟩ (.slice A3 n1 c3)).setCell ⟨P,3,none⟩ (.slice A4 n2 c4)) (P+1) itD 50 from(HR2.out.other (C:=P) (k:=2) (by omega) (.slice A3 n1 c3)).other (C:=P) (k:=3) (by omega) (.slice A4 n2 c4));have HB3:=Hq (show Below P w ((w2.setCell ⟨P,2,none⟩ (.slice A3 n1 c3)).setCell ⟨P,3,none⟩ (.slice A4 n2 c4))from(HL2.out.setCell (p:=⟨P,2,none⟩) nlr _).setCell (p:=⟨P,3,none⟩) nlr _);have HG3:=Hq (show 0<n1→∀ ad,A3=some ad→P+2≤ad.block from fun h0 ad he=>by have : W0.heap.size≤ad.block:=(HF3.out h0 ad he).1;have:=HW0.out;omega);have HG4:=Hq (show 0<n2→∀ ad,A4=some ad→P+2≤ad.block from fun h0 ad he=>by have:=(HF4.out h0 ad he).1;have:=HG.out;have:=HW0.out;omega);have HS3':=Hq (show SlN ((w2.setCell ⟨P,2,none⟩ (.slice A3 n1 c3)).setCell ⟨P,3,none⟩ (.slice A4 n2 c4)) A3 n1 c3 d.ad from HS32.out.of_blocks (fun h0 ad he=>by
  have:=HG3.out h0 ad he
  rw[heap_setCell_other _ _ _ _ (show ad.block≠P from by omega),heap_setCell_other _ _ _ _ (show ad.block≠P from by omega)]))
 have HS4':=Hq (show SlN ((w2.setCell ⟨P,2,none⟩ (.slice A3 n1 c3)).setCell ⟨P,3,none⟩ (.slice A4 n2 c4)) A4 n2 c4 d.rm from HS4.out.of_blocks (fun h0 ad he=>by
  have:=HG4.out h0 ad he
  rw[heap_setCell_other _ _ _ _ (show ad.block≠P from by omega),heap_setCell_other _ _ _ _ (show ad.block≠P from by omega)]))
 obtain⟨W3,hW3⟩:=nm (((w2.setCell ⟨P,2,none⟩ (.slice A3 n1 c3)).setCell ⟨P,3,none⟩ (.slice A4 n2 c4)));rw[hW3]at HP3 HR3 HB3 HS3' HS4'⊢;clear hW3 y2 f2;have k0:W3.cell? ⟨P,0,none⟩=some (.int .i64 d.fr):=HP3.out.cell 0;have k1:W3.cell? ⟨P,1,none⟩=some (.int .i64 d.to):=HP3.out.cell 1;have k2:W3.cell? ⟨P,2,none⟩=some (.slice A3 n1 c3):=HP3.out.cell 2;have k3:W3.cell? ⟨P,3,none⟩=some (.slice A4 n2 c4):=HP3.out.cell 3;have k4:W3.cell? ⟨P,4,none⟩=some (.string d.be):=HP3.out.cell 4;have k5:W3.cell? ⟨P,5,none⟩=some (.string d.af):=HP3.out.cell 5;have k6:W3.cell? ⟨P,6,none⟩=some (.string d.sc):=HP3.out.cell 6;have k7:W3.cell? ⟨P,7,none⟩=some (.string d.sr):=HP3.out.cell 7;go_wp2_with (refine wpList_store_rowTo rfl 50 _ _ rfl rfl (P+1) #[.int .i64 d.fr,.int .i64 d.to,.slice A3 n1 c3,.slice A4 n2 c4,.string d.be,.string d.af,.string d.sc,.string d.sr] rfl rfl 50 itD HR3.out (by kernel_rfl) rfl (by simp[Value.oneCell']) ?_);have HRZ:=Hq (show BxC (W3.setRow (P+1) #[.int .i64 d.fr,.int .i64 d.to,.slice A3 n1 c3,.slice A4 n2 c4,.string d.be,.string d.af,.string d.sc,.string d.sr]) (P+1) #[.int .i64 d.fr,.int .i64 d.to,.slice A3 n1 c3,.slice A4 n2 c4,.string d.be,.string d.af,.string d.sc,.string d.sr] 50 from setRow_heap _ _ _ _ _ _ HR3.out);have HBZ:=Hq (below_setRow HB3.out (g:=P+1) (by omega) #[.int .i64 d.fr,.int .i64 d.to,.slice A3 n1 c3,.slice A4 n2 c4,.string d.be,.string d.af,.string d.sc,.string d.sr]);have z0:(W3.setRow (P+1) #[.int .i64 d.fr,.int .i64 d.to,.slice A3 n1 c3,.slice A4 n2 c4,.string d.be,.string d.af,.string d.sc,.string d.sr]).cell? ⟨P+1,0,none⟩=some (.int .i64 d.fr):=HRZ.out.cell 0;have z1:(W3.setRow (P+1) #[.int .i64 d.fr,.int .i64 d.to,.slice A3 n1 c3,.slice A4 n2 c4,.string d.be,.string d.af,.string d.sc,.string d.sr]).cell? ⟨P+1,1,none⟩=some (.int .i64 d.to):=HRZ.out.cell 1;have z2:(W3.setRow (P+1) #[.int .i64 d.fr,.int .i64 d.to,.slice A3 n1 c3,.slice A4 n2 c4,.string d.be,.string d.af,.string d.sc,.string d.sr]).cell? ⟨P+1,2,none⟩=some (.slice A3 n1 c3):=HRZ.out.cell 2;have z3:(W3.setRow (P+1) #[.int .i64 d.fr,.int .i64 d.to,.slice A3 n1 c3,.slice A4 n2 c4,.string d.be,.string d.af,.string d.sc,.string d.sr]).cell? ⟨P+1,3,none⟩=some (.slice A4 n2 c4):=HRZ.out.cell 3;have z4:(W3.setRow (P+1) #[.int .i64 d.fr,.int .i64 d.to,.slice A3 n1 c3,.slice A4 n2 c4,.string d.be,.string d.af,.string d.sc,.string d.sr]).cell? ⟨P+1,4,none⟩=some (.string d.be):=HRZ.out.cell 4;have z5:(W3.setRow (P+1) #[.int .i64 d.fr,.int .i64 d.to,.slice A3 n1 c3,.slice A4 n2 c4,.string d.be,.string d.af,.string d.sc,.string d.sr]).cell? ⟨P+1,5,none⟩=some (.string d.af):=HRZ.out.cell 5;have z6:(W3.setRow (P+1) #[.int .i64 d.fr,.int .i64 d.to,.slice A3 n1 c3,.slice A4 n2 c4,.string d.be,.string d.af,.string d.sc,.string d.sr]).cell? ⟨P+1,6,none⟩=some (.string d.sc):=HRZ.out.cell 6;have z7:(W3.setRow (P+1) #[.int .i64 d.fr,.int .i64 d.to,.slice A3 n1 c3,.slice A4 n2 c4,.string d.be,.string d.af,.string d.sc,.string d.sr]).cell? ⟨P+1,7,none⟩=some (.string d.sr):=HRZ.out.cell 7;exact bodyPost_ret (v:=.agg #[.int .i64 d.fr,.int .i64 d.to,.slice A3 n1 c3,.slice A4 n2 c4,.string d.be,.string d.af,.string d.sc,.string d.sr]) (by simp[results,Tryz.results54,go_sem,z0,z1,z2,z3,z4,z5,z6,z7]) rfl ⟨A3,n1,c3,A4,n2,c4,rfl,HS3'.out.of_blocks (fun h0 ad he=>setRow_other _ _ _ _ (by have:=HG3.out h0 ad he;omega)),HS4'.out.of_blocks (fun h0 ad he=>setRow_other _ _ _ _ (by have:=HG4.out h0 ad he;omega)),(fun h0 ad he=>by have:=HG3.out h0 ad he;have:=HPE.out;omega),(fun h0 ad he=>by have:=HG4.out h0 ad he;have:=HPE.out;omega),by rw[HPE.out];exact HBZ.out⟩
set_option maxRecDepth 100000
set_option maxHeartbeats 4000000
open Go.RowKit Go.Shelf
attribute [local go_sem] Oper.semAt_some
theorem grown_of_below{W W':World}(h:Below W.heap.size W W'):W.grownBy W' none:=⟨h.os,h.tape,h.output,h.size,fun k hk _=>h.block k hk⟩
theorem abides_below{β:Type}{B:Nat}{J:β→World→Prop}(hJ:AbidesFrom B J){s:β}{W W':World}(h:J s W)(hb:Below W.heap.size W W'):J s W':=hJ s W W' none h (grown_of_below hb) (fun r e=>by cases e)
structure DV where
 d:Dl
 A1:Option Addr
 n1:Nat
 c1:Nat
 A2:Option Addr
 n2:Nat
 c2:Nat
structure DVok (w:World) (x:DV):Prop where
 s1:SlN w x.A1 x.n1 x.c1 x.d.ad
 s2:SlN w x.A2 x.n2 x.c2 x.d.rm
 few:FewD x.d
 sz:SzL x.d.str
abbrev DX(w:World):={ x:DV // DVok w x }
def DX.enc{w:World}(x:DX w):Array Value:=#[.agg (x.val.d.arr (.slice x.val.A1 x.val.n1 x.val.c1) (.slice x.val.A2 x.val.n2 x.val.c2))]
def KpB(B:Nat)(W W':World):Prop:=W.heap.size≤W'.heap.size∧∀ k,k<B→W'.heap[k]? =W.heap[k]?
theorem KpB.refl(B:Nat)(W:World):KpB B W W:=⟨Nat.le_refl _,fun _ _=>rfl⟩
theorem KpB.trans{B:Nat}{A C D:World}(h:KpB B A C)(k:KpB B C D):KpB B A D:=⟨Nat.le_trans h.1 k.1,fun i hi=>(k.2 i hi).trans (h.2 i hi)⟩
theorem KpB.of_below{B:Nat}{W W':World}(h:Below B W W'):KpB B W W':=⟨h.size,h.block⟩
theorem KpB.cell{w W:World}(h:KpB w.heap.size w W){a:Addr}{v:Value}(hc:w.cell? a=some v):W.cell? a=some v:=by
 have hl:a.block<w.heap.size:=by
  rcases Nat.lt_or_ge a.block w.heap.size with h1 | h1
  · exact h1
  · unfold World.cell? at hc;rw[Array.getElem?_eq_none h1]at hc;simp at hc
 rw[World.cell?_of_block (h.2 _ hl)];exact hc
theorem ep_deltas(A:Option Addr)(n c:Nat)(f t:Int)(w:World):Calls Tryz.prog 53 #[.slice A n c,.int .i64 f,.int .i64 t] w fun e w'=>e=.returned (.func (.func 84) #[] #[.pointer (some ⟨w.heap.size,0,none⟩),.pointer (some ⟨w.heap.size+1,0,none⟩),.pointer (some ⟨w.heap.size+1+1,0,none⟩)])∧w'=((w.alloc (.cells #[.slice A n c] 46)).alloc (.cells #[.int .i64 f] 3)).alloc (.cells #[.int .i64 t] 3):=by
 go_enter Tryz.func53,Tryz.ntmps53;go_wp2;go_ret;exact⟨rfl,rfl⟩
theorem deltas_stops(k:Nat)(hk:1≤k)(w0:World)(l:List Dl)(A:Option Addr)(n c:Nat)(hs:SlD w0 A n c l)(hf:∀ d∈l,FewD d)(hz:SzD l)(F T:Nat)(hFT:F<T)(hTn:T≤n)(w:World)(hw:Below w0.heap.size w0 w)(B1 B2 B3:Nat)(h1:BxC w B1 #[.slice A n c] 46)(h2:BxC w B2 #[.int .i64 F] 3)(h3:BxC w B3 #[.int .i64 T] 3) :
 SeqStopsK Fence.wide k Tryz.prog 84 #[.pointer (some ⟨B1,0,none⟩),.pointer (some ⟨B2,0,none⟩),.pointer (some ⟨B3,0,none⟩)] (DX.enc (w:=w0)) (KpB w0.heap.size) (fun xs=>xs.map (·.val.d)=(l.drop F).take (T - F)) (fun pre=>pre.map (·.val.d) <+: (l.drop F).take (T - F)) (T - F) w:=fun lp J Jx W hW hJ hJx hY h0=>by
 obtain⟨b,o,rfl⟩:∃ b o,A=some ⟨b,o,none⟩:=(by obtain⟨e,he⟩:∃ e,l[F]? =some e:=⟨_,List.getElem?_eq_getElem (by rw[hs.1];omega)⟩;obtain⟨b,o,h,_⟩:=hs.get he;exact⟨b,o,h⟩);have HS:=Hq hs;have HLEN:=Hq hs.1;have hcap:=hs.2.1;have hcap2:=hs.2.2.1;have HF:=Hq hf;have HZ:=Hq hz;have HW0:=Hq (show KpB w0.heap.size w0 W from(KpB.of_below hw).trans (KpB.of_below (hW.mono hw.size)));have x1:W.cell? ⟨B1,0,none⟩=some (.slice (some ⟨b,o,none⟩) n c):=(h1.next hW).cell 0;have x2:W.cell? ⟨B2,0,none⟩=some (.int .i64 F):=(h2.next hW).cell 0;have x3:W.cell? ⟨B3,0,none⟩=some (.int .i64 T):=(h3.next hW).cell 0;have HY:=Hq hY;have HJ:=Hq hJ;have HJ0:=Hq h0;clear hY hJ hJx h0 hW hw h1 h2 h3 hs hf hz;refine callsIn_of_wp Tryz.func84 rfl trivial ?_ rfl;simp only[Tryz.ntmps84,List.size_toArray,List.length_cons,List.length_nil,Nat.reduceAdd,Nat.reduceSub,Array.replicate_succ,Array.replicate_zero,List.push_toArray,List.append_toArray,List.nil_append,List.cons_append];gi_wp2;obtain⟨N,hN⟩:=nm (T - F);obtain⟨c',hc'⟩:∃ c',c - F=c':=⟨_,rfl⟩;rw[hN]at HY⊢;rw[hc'];have HN:=Hq hN;have hNc:N≤c':=by omega
 have hcb:c'≤9223372036854775807:=by omega
 clear x1 x2 x3 hN hc';gi_loopw [12] (fun i wr=>∃(j:Nat) (pre:List (DX w0)),j≤N∧i=.int .i64 j∧pre.map (·.val.d)=(l.drop F).take j∧KpB w0.heap.size w0 wr∧J pre wr) (fun i _=>N - (intOf i).toNat);case atStart=>exact⟨0,[],by omega,rfl,by simp,HW0.out,HJ0.out⟩
 case round =>
  obtain⟨j,pre,hj,rfl,hpre,hkp,hJr⟩:=hrel;have HPRE:=Hq hpre;have HKP:=Hq hkp;have HJR:=Hq hJr;clear hpre hkp hJr;by_cases hlt:j<N
  · obtain⟨d,he⟩:∃ d,l[F+j]? =some d:=⟨_,List.getElem?_eq_getElem (by rw[HLEN.out];have:=HN.out;omega)⟩;obtain⟨b2,o2,he2,A1,n1,c1,A2,n2,c2,hin⟩:=HS.out.get he;obtain⟨rfl,rfl⟩:b=b2∧o=o2:=by simpa using he2
    have HOKX:=Hq (show DVok w0 ⟨d,A1,n1,c1,A2,n2,c2⟩from⟨hin.2.1,hin.2.2,HF.out d (List.mem_of_getElem? he),HZ.out d (List.mem_of_getElem? he)⟩);have HPL:=Hq (show pre.length=j from by have:=congrArg List.length HPRE.out;rw[List.length_map,List.length_take,List.length_drop,Nat.min_eq_left (by rw[HLEN.out];have:=HN.out;omega)]at this;exact this);have HPN:=Hq (show (pre++[(⟨⟨d,A1,n1,c1,A2,n2,c2⟩,HOKX.out⟩:DX w0)]).map (·.val.d)=(l.drop F).take (j+1)from by rw[List.map_append,HPRE.out,List.take_add_one,List.getElem?_drop,he];rfl);have HPX:=Hq (show (pre++[(⟨⟨d,A1,n1,c1,A2,n2,c2⟩,HOKX.out⟩:DX w0)]).map (·.val.d) <+: (l.drop F).take N from by rw[HPN.out];exact List.take_prefix_take_left (by omega));have HIN:=Hq hin;have x0:wr.cell? ⟨b,o+F * 8+j * 8,none⟩=some (.int .i64 d.fr):=(by have:=HKP.out.cell (HIN.out.cell 0 rfl);rwa[show o+(F+j) * 8+0=o+F * 8+j * 8 from by omega]at this);have x1:wr.cell? ⟨b,o+F * 8+j * 8+1,none⟩=some (.int .i64 d.to):=(by have:=HKP.out.cell (HIN.out.cell 1 rfl);rwa[show o+(F+j) * 8+1=o+F * 8+j * 8+1 from by omega]at this);have x2:wr.cell? ⟨b,o+F * 8+j * 8+2,none⟩=some (.slice A1 n1 c1):=(by have:=HKP.out.cell (HIN.out.cell 2 rfl);rwa[show o+(F+j) * 8+2=o+F * 8+j * 8+2 from by omega]at this);have x3:wr.cell? ⟨b,o+F * 8+j * 8+3,none⟩=some (.slice A2 n2 c2):=(by have:=HKP.out.cell (HIN.out.cell 3 rfl);rwa[show o+(F+j) * 8+3=o+F * 8+j * 8+3 from by omega]at this);have x4:wr.cell? ⟨b,o+F * 8+j * 8+4,none⟩=some (.string d.be):=(by have:=HKP.out.cell (HIN.out.cell 4 rfl);rwa[show o+(F+j) * 8+4=o+F * 8+j * 8+4 from by omega]at this);have x5:wr.cell? ⟨b,o+F * 8+j * 8+5,none⟩=some (.string d.af):=(by have:=HKP.out.cell (HIN.out.cell 5 rfl);rwa[show o+(F+j) * 8+5=o+F * 8+j * 8+5 from by omega]at this);have x6:wr.cell? ⟨b,o+F * 8+j * 8+6,none⟩=some (.string d.sc):=(by have:=HKP.out.cell (HIN.out.cell 6 rfl);rwa[show o+(F+j) * 8+6=o+F * 8+j * 8+6 from by omega]at this);have x7:wr.cell? ⟨b,o+F * 8+j * 8+7,none⟩=some (.string d.sr):=(by have:=HKP.out.cell (HIN.out.cell 7 rfl);rwa[show o+(F+j) * 8+7=o+F * 8+j * 8+7 from by omega]at this);have hbX:Below wr.heap.size wr (wr.alloc (.cells #[.int .i64 d.fr,.int .i64 d.to,.slice A1 n1 c1,.slice A2 n2 c2,.string d.be,.string d.af,.string d.sc,.string d.sr] 50)):=(blr).alloc nlr _;have HJX:=Hq (abides_below HJ.out HJR.out hbX);have HKX:=Hq (HKP.out.trans (KpB.of_below (hbX.mono HKP.out.1)));clear he he2 hin hbX;obtain⟨fn,tmps,assign,body,hy,hR⟩:=HY.out pre ⟨⟨d,A1,n1,c1,A2,n2,c2⟩,HOKX.out⟩ _ HJX.out (by rw[HPL.out];exact hlt);have HR:=Hq hR;clear hR;unfold DX.enc Dl.arr at hy;dsimp only at hy;gi_wp2;refine HR.out.mono ?_;rintro ev W' (⟨rfl,hJ',hk'⟩ | ⟨rfl,hJx'⟩)
    · have HJ':=Hq hJ';have HK':=Hq (HKX.out.trans hk');clear hJ' hk';gi_wp2;go_roundw;case rel=>exact⟨j+1,pre++[⟨⟨d,A1,n1,c1,A2,n2,c2⟩,HOKX.out⟩],by omega,by go_num,HPN.out,HK'.out,HJ'.out⟩
      case measure=>simp[intOf]<;>omega
    · have HX:=Hq hJx';clear hJx';gi_wp2;refine bodyPost_ret (results_none rfl _ _ _) rfl ?_;exact⟨⟨_,rfl⟩,.inr ⟨pre++[⟨⟨d,A1,n1,c1,A2,n2,c2⟩,HOKX.out⟩],by rw[HN.out];exact HPX.out,HX.out⟩⟩
  · obtain rfl:j=N:=by omega
    have HPR:=Hq (show pre.map (·.val.d)=(l.drop F).take (T - F)from by rw[HN.out];exact HPRE.out);clear hlt hj;gi_wp2;go_end0;exact⟨⟨_,rfl⟩,.inl ⟨pre,HPR.out,HJR.out⟩⟩
theorem letsOut_then{K:Act→World→Prop}{Q:Exit→Act→World→Prop}(h:¬ LetsOut Q):¬ LetsOut (Exit.then K Q):=fun⟨a,w,hq⟩=>h ⟨a,w,hq⟩
theorem letsOut_block{id:Nat}{Q:Exit→Act→World→Prop}(h:¬ LetsOut Q):¬ LetsOut (Exit.inBlock id Q):=fun⟨a,w,hq⟩=>h ⟨a,w,hq⟩
theorem letsOut_own{α:Type}(Kp:World→World→Prop)(I:List α→World→Prop)(Ix:Code→List α→World→Prop)(xs:List α)(W:World):¬ LetsOut (ownPostK Kp I Ix xs W):=fun⟨_,_,h⟩=>h
def nodef:List Oper→Bool:=fun l=>l.all fun o=>match o.op with
 | .defer _=>false
 | _=>true
theorem oper_in{P:Program}{r n:Nat}{o:Oper}{a:Act}{w:World}{K K':Act→World→Prop}{Q:Exit→Act→World→Prop}(hd:∀ c,o.op≠.defer c)(hQ:¬ LetsOut Q)(h:o.wp P a w K Q∨(o.asks P a w∧LetsOut Q))(hK:∀ a w,K a w→K' a w):o.wpIn (Fence.wide.inRound r) n P a w K' Q:=by
 rcases h with h | ⟨_,h⟩
 · refine⟨fun _ _=>trivial,?_⟩;rw[Oper.semAt_eq _ _ _ hd];unfold Oper.wp at h
   cases hr:(execOp a.eval o).run P w with
   | ok x w' =>
    rw[hr]at h
    cases x with
    | value v=>exact hK _ _ h
    | skip=>exact hK _ _ h
    | defer d=>exact hK _ _ h
    | enter f args =>
     refine⟨(fun h0=>absurd h0 (by simp[Fence.wide])),CallsIn.inRound r (callsIn_wide.2 (Calls.mono h ?_))⟩;intro e w'' he
     cases e with
     | returned v=>exact hK _ _ he
     | panicked c=>exact he
     | outgrown=>exact he
    | row row args =>
     refine⟨(fun h0=>absurd h0 (by simp[Fence.wide])),fun c cs _=>?_⟩;obtain⟨v,w'',h1,h2⟩:=h c cs;exact⟨v,w'',hK _ _ h1,(stepsIn_wide (P:=P)).2 h2⟩
    | _=>exact h.elim
   | halt x w' =>
    rw[hr]at h
    cases x with
    | panic v=>exact h
    | _=>exact h.elim
 · exact absurd h hQ
theorem list_in{P:Program}{r n:Nat}{ops:Array Oper}{Q:Exit→Act→World→Prop}(hQ:¬ LetsOut Q):∀(l:List Oper),nodef l=true→∀ a w,wpList P ops Q l a w→wpListIn (Fence.wide.inRound r) n P ops Q l a w
 | [],_,_,_,h=>h
 | o::l,hd,a,w,h=>by
  have hd2:(∀ c,o.op≠.defer c)∧nodef l=true:=(by unfold nodef at hd⊢;rw[List.all_cons,Bool.and_eq_true]at hd;refine⟨fun c hc=>?_,hd.2⟩;rw[hc]at hd;simp at hd);unfold wpList at h;unfold wpListIn;split
  · rename_i hw;rw[if_pos hw]at h;exact oper_in hd2.1 hQ h (fun a w h=>list_in hQ l hd2.2 a w h)
  · rename_i hw;rw[if_neg hw]at h;exact⟨fun _ _=>trivial,list_in hQ l hd2.2 _ _ h⟩
theorem region_in{P:Program}{r n id:Nat}{l:List Oper}{Q:Exit→Act→World→Prop}{a:Act}{w:World}(hQ:¬ LetsOut Q)(hd:nodef l=true)(h:wpList P l.toArray Q l a w):(Code.region id l.toArray false).wpIn (Fence.wide.inRound r) n P Q a w:=
 wpIn_region_lit (list_in hQ l hd a w h)
theorem region_inF{P:Program}{r n id:Nat}{l:List Oper}{K:Act→World→Prop}{a:Act}{w:World}(hd:nodef l=true)(h:wpList P l.toArray (Exit.then K (fun _ _ _=>False)) l a w):(Code.region id l.toArray false).wpIn (Fence.wide.inRound r) n P (Exit.then K (fun _ _ _=>False)) a w:=
 wpIn_region_lit (list_in (fun⟨_,_,h⟩=>h) l hd a w h)
theorem bodyM_ret{F:Fence}{n:Nat}{P:Program}{fn:Func}{R:Ending→World→Prop}{a:Act}{w:World}{v:Value}(hr:(results fn a.tmps).run P w=.ok v w)(hd:a.defers=[])(hR:R (.returned v) w):bodyPostM F n P fn R .ret a w:=by
 show LeavesInM F n P fn a.tmps R a.defers .returning w;rw[hd];exact⟨v,hr,hR⟩
theorem bodyM_mark{F:Fence}{n:Nat}{P:Program}{fn:Func}{R:Ending→World→Prop}{a:Act}{w:World}{v:Value}{D:Nat}(hk:w.heap[D]? =some (.deferred (some [])))(hd:a.defers=[{ target:=.collected D,args:=#[] }])(hr:(results fn a.tmps).run P (w.putObj D (.deferred none))=.ok v (w.putObj D (.deferred none)))(hR:R (.returned v) (w.putObj D (.deferred none))):bodyPostM F n P fn R .ret a w:=by
 show LeavesInM F n P fn a.tmps R a.defers .returning w;rw[hd];exact⟨by simp,.inl ⟨_,_,rfl,run_takeDeferred hk,v,hr,hR⟩⟩
end Go.Proofs.YtmahgbhpdfbbjaaGreatDoor

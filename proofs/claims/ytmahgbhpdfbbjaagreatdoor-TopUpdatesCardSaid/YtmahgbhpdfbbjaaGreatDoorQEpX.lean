import Derived.Test.YtmahgbhpdfbbjaaGreatDoorQEpN
set_option linter.unusedVariables false
set_option linter.unusedSimpArgs false
namespace Go.Proofs.YtmahgbhpdfbbjaaGreatDoor
open Go.RowKit
def Dl.vals(d:Dl)(a r:Value):List Value:=[.int .i64 d.fr,.int .i64 d.to,a,r,.string d.be,.string d.af,.string d.sc,.string d.sr]
def DIn(w:World)(b p:Nat)(d:Dl)(A1:Option Addr)(n1 c1:Nat)(A2:Option Addr)(n2 c2:Nat):Prop:=(∀ j u,(d.vals (.slice A1 n1 c1) (.slice A2 n2 c2))[j]? =some u→w.cell? ⟨b,p+j,none⟩=some u)∧SlN w A1 n1 c1 d.ad∧SlN w A2 n2 c2 d.rm
theorem DIn.kept{B:Nat}{w w':World}{b p n1 c1 n2 c2:Nat}{d:Dl}{A1 A2:Option Addr}(h:DIn w b p d A1 n1 c1 A2 n2 c2)(hb:Below B w w')(hB:w.heap.size≤B):DIn w' b p d A1 n1 c1 A2 n2 c2:=
 ⟨fun j u hu=>cell_kept hb hB (h.1 j u hu),h.2.1.kept hb hB,h.2.2.kept hb hB⟩
def SlD(w:World)(A:Option Addr)(len cap:Nat)(l:List Dl):Prop:=
 l.length=len∧len≤cap∧cap≤9223372036854775807∧∃ b o,(0<len→A=some ⟨b,o,none⟩)∧∀ k d,l[k]? =some d→∃ A1 n1 c1 A2 n2 c2,DIn w b (o+k * 8) d A1 n1 c1 A2 n2 c2
theorem SlD.kept{B:Nat}{w w':World}{A:Option Addr}{len cap:Nat}{l:List Dl}(h:SlD w A len cap l)(hb:Below B w w')(hB:w.heap.size≤B):SlD w' A len cap l:=
 let ⟨h1,h2,h3,b,o,h4,h5⟩:=h
 ⟨h1,h2,h3,b,o,h4,fun k d hk=>let ⟨A1,n1,c1,A2,n2,c2,h6⟩:=h5 k d hk;⟨A1,n1,c1,A2,n2,c2,h6.kept hb hB⟩⟩
theorem SlD.get{w:World}{A:Option Addr}{len cap:Nat}{l:List Dl}(h:SlD w A len cap l){k:Nat}{d:Dl}(hk:l[k]? =some d):∃ b o,A=some ⟨b,o,none⟩∧∃ A1 n1 c1 A2 n2 c2,DIn w b (o+k * 8) d A1 n1 c1 A2 n2 c2:=by
 obtain⟨h1,_,_,b,o,h4,h5⟩:=h;have:=(List.getElem?_eq_some_iff.1 hk).1;exact⟨b,o,h4 (by omega),h5 k d hk⟩
theorem SlD.nil(w:World)(A:Option Addr)(cap:Nat)(h:cap≤9223372036854775807):SlD w A 0 cap []:=⟨rfl,Nat.zero_le _,h,0,0,fun h=>by omega,fun k e h=>by simp at h⟩
def RetF(P:Prop)(w:World)(e:Ending)(w':World):Prop:=∃ b,e=.returned (.bool b)∧(b=true→P)∧Below w.heap.size w w'
def Short(l:List ByteArray):Prop:=l.length≤20∧∀ s∈l,s.size≤16
structure FewD (d:Dl):Prop where
 ad:Short d.ad
 rm:Short d.rm
 xs:Short [d.be,d.af,d.sc,d.sr]
def SzD(l:List Dl):Prop:=∀ d∈l,SzL d.str
theorem DIn.cell{w:World}{b p n1 c1 n2 c2:Nat}{d:Dl}{A1 A2:Option Addr}(h:DIn w b p d A1 n1 c1 A2 n2 c2)(j:Nat){u:Value}(hu:(d.vals (.slice A1 n1 c1) (.slice A2 n2 c2))[j]? =some u):w.cell? ⟨b,p+j,none⟩=some u:=h.1 j u hu
def Dl.strip(d:Dl):Dl:={ d with sc:=⟨#[]⟩,sr:=⟨#[]⟩ }
def foldJ(d:Dl):List Dl→Dl×Int
 | []=>(d,0)
 | x::l=>if (jn d x).2=0 then foldJ (jn d x).1 l else(Dl.zero,(jn d x).2)
def btw(l:List Dl)(F T:Nat):Dl×Int:=match l[F]? with
 | none=>(Dl.zero,2)
 | some d=>if T=F+1∧d.strip.msg.2≠0 then(Dl.zero,d.strip.msg.2)else foldJ d.strip ((l.drop (F+1)).take (T - (F+1)))
def bt(l:List Dl)(f t:Int):Dl×Int:=if f<0∨t≤f∨(l.length:Int)<t then(Dl.zero,2)else btw l f.toNat t.toNat
theorem len_mrg(na nb:ByteArray→Bool)(a b:List ByteArray):(mrg na nb a b).length≤a.length+b.length:=by
 fun_induction mrg na nb a b<;>simp only[List.length_nil,List.length_cons]at *<;>omega
theorem jn_ok{a b:Dl}(h:(jn a b).2=0):(jn a b).1=⟨a.fr,b.to,mrg (memB b.rm) (memB a.rm) a.ad b.ad,mrg (memB b.ad) (memB a.ad) a.rm b.rm,a.be,b.af,⟨#[]⟩,⟨#[]⟩⟩∧a.msg.2=0∧b.msg.2=0∧a.to=b.fr∧a.af=b.be∧clash a b=false:=by
 unfold jn at h⊢;by_cases h1:a.msg.2=0
 · rw[if_neg (by simpa using h1)]at h⊢;by_cases h2:b.msg.2=0
   · rw[if_neg (by simpa using h2)]at h⊢;by_cases h3:a.to=b.fr
     · rw[if_neg (by simpa using h3)]at h⊢;by_cases h4:a.af=b.be
       · rw[if_neg (by simpa using h4)]at h⊢
         cases h5:clash a b with
         | false=>rw[if_neg (by simp)];exact⟨rfl,h1,h2,h3,h4,rfl⟩
         | true=>rw[h5,if_pos rfl]at h;cases h
       · rw[if_pos h4]at h;cases h
     · rw[if_pos h3]at h;cases h
   · rw[if_pos h2]at h;exact absurd h h2
 · rw[if_pos h1]at h;exact absurd h h1
theorem jn_err{a b:Dl}(h:(jn a b).2≠0):(jn a b).1=Dl.zero:=by
 unfold jn at h⊢;split
 · rfl
 · split
   · rfl
   · split
     · rfl
     · split
       · rfl
       · split
         · rfl
         · rename_i h1 h2 h3 h4 h5;rw[if_neg h1,if_neg h2,if_neg h3,if_neg h4,if_neg h5]at h;exact absurd rfl h
theorem jn_len{a b:Dl}:(jn a b).1.ad.length≤a.ad.length+b.ad.length∧(jn a b).1.rm.length≤a.rm.length+b.rm.length:=by
 by_cases h:(jn a b).2=0
 · rw[(jn_ok h).1];exact⟨len_mrg _ _ _ _,len_mrg _ _ _ _⟩
 · rw[jn_err h];exact⟨Nat.zero_le _,Nat.zero_le _⟩
theorem jn_sz{a b:Dl}(ha:SzL a.str)(hb:SzL b.str):SzL (jn a b).1.str:=by
 by_cases h:(jn a b).2=0
 · rw[(jn_ok h).1];intro s hs;simp only[Dl.str,List.mem_append,mem_mrg,List.mem_cons,List.mem_nil_iff,or_false]at hs;rcases hs with((⟨h,_⟩ | ⟨h,_⟩) | (⟨h,_⟩ | ⟨h,_⟩)) | rfl | rfl | rfl | rfl
   · exact ha s (by unfold Dl.str;simp[h])
   · exact hb s (by unfold Dl.str;simp[h])
   · exact ha s (by unfold Dl.str;simp[h])
   · exact hb s (by unfold Dl.str;simp[h])
   · exact ha _ (by unfold Dl.str;simp)
   · exact hb _ (by unfold Dl.str;simp)
   · decide
   · decide
 · rw[jn_err h];intro s hs;simp[Dl.str,Dl.zero]at hs;subst hs;decide
theorem strip_sz{d:Dl}(h:SzL d.str):SzL d.strip.str:=by
 intro s hs;simp only[Dl.str,Dl.strip,List.mem_append,List.mem_cons,List.mem_nil_iff,or_false]at hs;rcases hs with(h' | h') | rfl | rfl | rfl | rfl
 · exact h s (by unfold Dl.str;simp[h'])
 · exact h s (by unfold Dl.str;simp[h'])
 · exact h _ (by unfold Dl.str;simp)
 · exact h _ (by unfold Dl.str;simp)
 · decide
 · decide
theorem rest_cons{l:List Dl}{i T:Nat}{x:Dl}(hx:l[i]? =some x)(hT:i<T):(l.drop i).take (T - i)=x::(l.drop (i+1)).take (T - (i+1)):=by
 obtain⟨hl,rfl⟩:=List.getElem?_eq_some_iff.1 hx;rw[List.drop_eq_getElem_cons hl,show T - i=(T - (i+1))+1 from by omega,List.take_succ_cons]
def itD:Array Value:=#[.int .i64 0,.int .i64 0,.slice none 0 0,.slice none 0 0,.string ⟨#[]⟩,.string ⟨#[]⟩,.string ⟨#[]⟩,.string ⟨#[]⟩]
set_option maxRecDepth 100000
set_option maxHeartbeats 4000000
def RetCp(d:Dl)(w:World)(e:Ending)(w':World):Prop:=∃ A n c A' n' c',e=.returned (.agg (d.arr (.slice A n c) (.slice A' n' c')))∧SlN w' A n c d.ad∧SlN w' A' n' c' d.rm∧Frs w A n∧Frs w A' n'∧Below w.heap.size w w'
theorem ep_copied(d:Dl)(A1 A2:Option Addr)(n1 c1 n2 c2:Nat)(w:World)(h1:SlN w A1 n1 c1 d.ad)(h2:SlN w A2 n2 c2 d.rm)(g1:n1≤400000)(g2:n2≤400000):Calls Tryz.prog 54 #[.agg (d.arr (.slice A1 n1 c1) (.slice A2 n2 c2))] w (RetCp d w):=by
 obtain⟨P,hP⟩:=nm (w.heap.size);obtain⟨W0,hW0⟩:=nm ((w.alloc (.cells (d.arr (.slice A1 n1 c1) (.slice A2 n2 c2)) 50)).alloc (.cells itD 50));have HP0:=Hq (show BxC W0 P #[.int .i64 d.fr,.int .i64 d.to,.slice A1 n1 c1,.slice A2 n2 c2,.string d.be,.string d.af,.string d.sc,.string d.sr] 50 from by rw[←hW0,←hP];exact(BxC.new w _ _).alloc _);have HR0:=Hq (show BxC W0 (P+1) itD 50 from by rw[←hW0,←hP];exact BxC.new1 w _ _ _);have HB0:=Hq (show Below P w W0 from by rw[←hW0,←hP];exact((blr).alloc nlr _).alloc (by simp) _);have HW0:=Hq (show P+2=W0.heap.size from by rw[←hW0,←hP];simp);have HPE:=Hq hP;have H1:=Hq (h1.kept HB0.out (Nat.le_of_eq hP));have H2:=Hq (h2.kept HB0.out (Nat.le_of_eq hP));have x2:W0.drew.cell? ⟨P,2,none⟩=some (.slice A1 n1 c1):=HP0.out.cell 2;have x3:W0.drew.cell? ⟨P,3,none⟩=some (.slice A2 n2 c2):=HP0.out.cell 3;have H1d:=Hq (show SlN W0.drew A1 n1 c1 d.ad from H1.out.kept (blr).drew nlr);have H2d:=Hq (show SlN W0.drew A2 n2 c2 d.rm from H2.out.kept (blr).drew nlr);clear h1 h2;unfold Dl.arr itD at hW0;unfold Dl.arr;go_enter Tryz.func54,Tryz.ntmps54;go_wp2;refine wp_region_K 7 (Below (W0.drew).heap.size (W0.drew)) (by kernel_rfl) ?_;refine qPDs 0 3 9 blr ?_;refine qTDs 1 4 8 blr (fun w' hS'=>(And.intro (kc hS' x2) (kc hS' x3))) ?_;refine qPDs 3 6 7 blr ?_;refine qTDs 4 7 6 blr (fun w' hS'=>(And.intro (kc hS' x2) (kc hS' x3))) ?_;refine oO 2 5 ?_;intro K2 hK2;go_wp2_with fail;refine(cl_nats d.ad A1 n1 c1 _ (H1d.out.kept blr nlr) (by omega)).mono ?_;rintro e w1 ⟨v3,rfl,hown,hb⟩;obtain⟨A3,c3,rfl,hs3,hf3⟩:=own_sln hown;have HB2:=Hq hb;have HS3:=Hq hs3;have HF3:=Hq hf3;clear hown hb hs3 hf3;go_wp2;refine hK2 _ _ (by exact HB2.out) ?_;clear hK2;intro hS_1_2;refine qPDs 6 9 4 hS_1_2 ?_;refine oO 5 3 ?_;intro K5 hK5;go_wp2_with fail;refine(cl_nats d.rm A2 n2 c2 _ (H2d.out.kept hS_1_2 nlr) (by omega)).mono ?_;rintro e w2 ⟨v4,rfl,hown,hb⟩;obtain⟨A4,c4,rfl,hs4,hf4⟩:=own_sln hown;have HB5:=Hq hb;have HS4:=Hq hs4;have HF4:=Hq hf4;have hbl:=Below.trans hS_1_2 (Below.mono hb (Below.size hS_1_2));have HS32:=Hq (HS3.out.kept hb nlr);have HP2:=Hq (show BxC w2 P _ _ from(show BxC W0.drew P _ _ from HP0.out).next hbl);have HR2:=Hq (show BxC w2 (P+1) _ _ from(show BxC W0.drew (P+1) _ _ from HR0.out).next hbl);have HG:=Hq (show W0.heap.size≤w1.heap.size from HB2.out.size);have HL2:=Hq (show Below P w w2 from HB0.out.trans ((((blr).drew).trans hbl).mono (show P≤W0.heap.size from by have:=HW0.out;omega)));have y2:w2.cell? ⟨P,2,none⟩=some (.slice A1 n1 c1):=HP2.out.cell 2;have f2:=HP2.out.free 2;clear hown hb hs4 hf4 hbl x2 x3;go_wp2;refine hK5 _ _ (by exact Below.trans hS_1_2 (Below.mono HB5.out (Below.size hS_1_2))) ?_;clear hK5;intro hS_1_5;refine oT 7 2 ?_;intro K7 hK7;go_wp2;refine hK7 _ _ ?_;clear hK7;intro hD;refine wpAnyK_pureTD (i:=8) (d:=some 10) (v:=?v1_8b1) (fuel:=1) rfl (by kernel_rfl) (by kernel_rfl) (by kernel_rfl) (fun _ _ _ h=>h) hD (.inl ⟨by kernel_rfl,?y1_8b1⟩) ?n1_8b1
 case y1_8b1=>intro w' _;go_simp;with_reducible rfl
 simp only[Act.put,sqA,sqB,sqC];refine oT 9 0 ?_;intro K9 hK9;have y3:(w2.setCell ⟨P,2,none⟩ (.slice A3 n1 c3)).cell? ⟨P,3,none⟩=some (.slice A2 n2 c2):=(HP2.out.set (k:=2) (.slice A3 n1 c3)).cell 3;have f3:=(HP2.out.set (k:=2) (.slice A3 n1 c3)).free 3;go_wp2;refine hK9 _ _ ?_;clear hK9;refine wDn ?_;have HP3:=Hq (show BxC ((w2.setCell ⟨P,2,none⟩ (.slice A3 n1 c3)).setCell ⟨P,3,none⟩ (.slice A4 n2 c4)) P #[.int .i64 d.fr,.int .i64 d.to,.slice A3 n1 c3,.slice A4 n2 c4,.string d.be,.string d.af,.string d.sc,.string d.sr] 50 from(HP2.out.set (k:=2) (.slice A3 n1 c3)).set (k:=3) (.slice A4 n2 c4));have HR3:=Hq (show BxC ((w2.setCell ⟨P,2,none⟩ (.slice A3 n1 c3)).setCell ⟨P,3,none⟩ (.slice A4 n2 c4)) (P+1) itD 50 from(HR2.out.other (C:=P) (k:=2) (by omega) (.slice A3 n1 c3)).other (C:=P) (k:=3) (by omega) (.slice A4 n2 c4));have HB3:=Hq (show Below P w ((w2.setCell ⟨P,2,none⟩ (.slice A3 n1 c3)).setCell ⟨P,3,none⟩ (.slice A4 n2 c4))from(HL2.out.setCell (p:=⟨P,2,none⟩) nlr _).setCell (p:=⟨P,3,none⟩) nlr _);have HG3:=Hq (show 0<n1→∀ ad,A3=some ad→P+2≤ad.block from fun h0 ad he=>by have : W0.heap.size≤ad.block:=(HF3.out h0 ad he).1;have:=HW0.out;omega);have HG4:=Hq (show 0<n2→∀ ad,A4=some ad→P+2≤ad.block from fun h0 ad he=>by have:=(HF4.out h0 ad he).1;have:=HG.out;have:=HW0.out;omega);have HS3':=Hq (show SlN ((w2.setCell ⟨P,2,none⟩ (.slice A3 n1 c3)).setCell ⟨P,3,none⟩ (.slice A4 n2 c4)) A3 n1 c3 d.ad from HS32.out.of_blocks (fun h0 ad he=>by
  have:=HG3.out h0 ad he
  rw[heap_setCell_other _ _ _ _ (show ad.block≠P from by omega),heap_setCell_other _ _ _ _ (show ad.block≠P from by omega)]))
 have HS4':=Hq (show SlN ((w2.setCell ⟨P,2,none⟩ (.slice A3 n1 c3)).setCell ⟨P,3,none⟩ (.slice A4 n2 c4)) A4 n2 c4 d.rm from HS4.out.of_blocks (fun h0 ad he=>by
  have:=HG4.out h0 ad he
  rw[heap_setCell_other _ _ _ _ (show ad.block≠P from by omega),heap_setCell_other _ _ _ _ (show ad.block≠P from by omega)]))
 obtain⟨W3,hW3⟩:=nm (((w2.setCell ⟨P,2,none⟩ (.slice A3 n1 c3)).setCell ⟨P,3,none⟩ (.slice A4 n2 c4)));rw[hW3]at HP3 HR3 HB3 HS3' HS4'⊢;clear hW3 y2 f2;have k0:W3.cell? ⟨P,0,none⟩=some (.int .i64 d.fr):=HP3.out.cell 0;have k1:W3.cell? ⟨P,1,none⟩=some (.int .i64 d.to):=HP3.out.cell 1;have k2:W3.cell? ⟨P,2,none⟩=some (.slice A3 n1 c3):=HP3.out.cell 2;have k3:W3.cell? ⟨P,3,none⟩=some (.slice A4 n2 c4):=HP3.out.cell 3;have k4:W3.cell? ⟨P,4,none⟩=some (.string d.be):=HP3.out.cell 4;have k5:W3.cell? ⟨P,5,none⟩=some (.string d.af):=HP3.out.cell 5;have k6:W3.cell? ⟨P,6,none⟩=some (.string d.sc):=HP3.out.cell 6;have k7:W3.cell? ⟨P,7,none⟩=some (.string d.sr):=HP3.out.cell 7;go_wp2_with (refine wpList_store_rowTo rfl 50 _ _ rfl rfl (P+1) #[.int .i64 d.fr,.int .i64 d.to,.slice A3 n1 c3,.slice A4 n2 c4,.string d.be,.string d.af,.string d.sc,.string d.sr] rfl rfl 50 itD HR3.out (by kernel_rfl) rfl (by simp[Value.oneCell']) ?_);have HRZ:=Hq (show BxC (W3.setRow (P+1) #[.int .i64 d.fr,.int .i64 d.to,.slice A3 n1 c3,.slice A4 n2 c4,.string d.be,.string d.af,.string d.sc,.string d.sr]) (P+1) #[.int .i64 d.fr,.int .i64 d.to,.slice A3 n1 c3,.slice A4 n2 c4,.string d.be,.string d.af,.string d.sc,.string d.sr] 50 from setRow_heap _ _ _ _ _ _ HR3.out);have HBZ:=Hq (below_setRow HB3.out (g:=P+1) (by omega) #[.int .i64 d.fr,.int .i64 d.to,.slice A3 n1 c3,.slice A4 n2 c4,.string d.be,.string d.af,.string d.sc,.string d.sr]);have z0:(W3.setRow (P+1) #[.int .i64 d.fr,.int .i64 d.to,.slice A3 n1 c3,.slice A4 n2 c4,.string d.be,.string d.af,.string d.sc,.string d.sr]).cell? ⟨P+1,0,none⟩=some (.int .i64 d.fr):=HRZ.out.cell 0;have z1:(W3.setRow (P+1) #[.int .i64 d.fr,.int .i64 d.to,.slice A3 n1 c3,.slice A4 n2 c4,.string d.be,.string d.af,.string d.sc,.string d.sr]).cell? ⟨P+1,1,none⟩=some (.int .i64 d.to):=HRZ.out.cell 1;have z2:(W3.setRow (P+1) #[.int .i64 d.fr,.int .i64 d.to,.slice A3 n1 c3,.slice A4 n2 c4,.string d.be,.string d.af,.string d.sc,.string d.sr]).cell? ⟨P+1,2,none⟩=some (.slice A3 n1 c3):=HRZ.out.cell 2;have z3:(W3.setRow (P+1) #[.int .i64 d.fr,.int .i64 d.to,.slice A3 n1 c3,.slice A4 n2 c4,.string d.be,.string d.af,.string d.sc,.string d.sr]).cell? ⟨P+1,3,none⟩=some (.slice A4 n2 c4):=HRZ.out.cell 3;have z4:(W3.setRow (P+1) #[.int .i64 d.fr,.int .i64 d.to,.slice A3 n1 c3,.slice A4 n2 c4,.string d.be,.string d.af,.string d.sc,.string d.sr]).cell? ⟨P+1,4,none⟩=some (.string d.be):=HRZ.out.cell 4;have z5:(W3.setRow (P+1) #[.int .i64 d.fr,.int .i64 d.to,.slice A3 n1 c3,.slice A4 n2 c4,.string d.be,.string d.af,.string d.sc,.string d.sr]).cell? ⟨P+1,5,none⟩=some (.string d.af):=HRZ.out.cell 5;have z6:(W3.setRow (P+1) #[.int .i64 d.fr,.int .i64 d.to,.slice A3 n1 c3,.slice A4 n2 c4,.string d.be,.string d.af,.string d.sc,.string d.sr]).cell? ⟨P+1,6,none⟩=some (.string d.sc):=HRZ.out.cell 6;have z7:(W3.setRow (P+1) #[.int .i64 d.fr,.int .i64 d.to,.slice A3 n1 c3,.slice A4 n2 c4,.string d.be,.string d.af,.string d.sc,.string d.sr]).cell? ⟨P+1,7,none⟩=some (.string d.sr):=HRZ.out.cell 7;exact bodyPost_ret (v:=.agg #[.int .i64 d.fr,.int .i64 d.to,.slice A3 n1 c3,.slice A4 n2 c4,.string d.be,.string d.af,.string d.sc,.string d.sr]) (by simp[results,Tryz.results54,go_sem,z0,z1,z2,z3,z4,z5,z6,z7]) rfl ⟨A3,n1,c3,A4,n2,c4,rfl,HS3'.out.of_blocks (fun h0 ad he=>setRow_other _ _ _ _ (by have:=HG3.out h0 ad he;omega)),HS4'.out.of_blocks (fun h0 ad he=>setRow_other _ _ _ _ (by have:=HG4.out h0 ad he;omega)),(fun h0 ad he=>by have:=HG3.out h0 ad he;have:=HPE.out;omega),(fun h0 ad he=>by have:=HG4.out h0 ad he;have:=HPE.out;omega),by rw[HPE.out];exact HBZ.out⟩
end Go.Proofs.YtmahgbhpdfbbjaaGreatDoor

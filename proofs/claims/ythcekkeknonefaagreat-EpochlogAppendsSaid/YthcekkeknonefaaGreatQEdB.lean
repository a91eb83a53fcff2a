import Derived.Test.YthcekkeknonefaaGreatQEpW
import Derived.Test.YthcekkeknonefaaGreatQEpB
import Derived.Test.YthcekkeknonefaaGreatQEpQ
import Derived.Deep.AppendLies
set_option linter.unusedVariables false
set_option linter.unusedSimpArgs false
namespace Go.Proofs.YthcekkeknonefaaGreat
set_option maxRecDepth 100000
set_option maxHeartbeats 4000000
open Go.RowKit
def RetCp(d:Dl)(w:World)(e:Ending)(w':World):Prop:=∃ A n c A' n' c',e=.returned (.agg (d.arr (.slice A n c) (.slice A' n' c')))∧SlN w' A n c d.ad∧SlN w' A' n' c' d.rm∧Frs w A n∧Frs w A' n'∧Below w.heap.size w w'
theorem ep_copied(d:Dl)(A1 A2:Option Addr)(n1 c1 n2 c2:Nat)(w:World)(h1:SlN w A1 n1 c1 d.ad)(h2:SlN w A2 n2 c2 d.rm)(g1:n1≤400000)(g2:n2≤400000):Calls Tryz.prog 21 #[.agg (d.arr (.slice A1 n1 c1) (.slice A2 n2 c2))] w (RetCp d w):=by
 obtain⟨P,hP⟩:∃ P,w.heap.size=P:=⟨_,rfl⟩;obtain⟨W0,hW0⟩:∃ W0,(w.alloc (.cells (d.arr (.slice A1 n1 c1) (.slice A2 n2 c2)) 32)).alloc (.cells itD 32)=W0:=⟨_,rfl⟩;have HP0:=Hq (show BxC W0 P #[.int .i64 d.fr,.int .i64 d.to,.slice A1 n1 c1,.slice A2 n2 c2,.string d.be,.string d.af,.string d.sc,.string d.sr] 32 from by rw[←hW0,←hP];exact(BxC.new w _ _).alloc _);have HR0:=Hq (show BxC W0 (P+1) itD 32 from by rw[←hW0,←hP];exact BxC.new1 w _ _ _);have HB0:=Hq (show Below P w W0 from by rw[←hW0,←hP];exact((Below.refl _ _).alloc (Nat.le_refl _) _).alloc (by simp) _);have HW0:=Hq (show P+2=W0.heap.size from by rw[←hW0,←hP];simp);have HPE:=Hq hP;have H1:=Hq (h1.kept HB0.out (Nat.le_of_eq hP));have H2:=Hq (h2.kept HB0.out (Nat.le_of_eq hP));have x2:W0.drew.cell? ⟨P,2,none⟩=some (.slice A1 n1 c1):=HP0.out.cell 2;have x3:W0.drew.cell? ⟨P,3,none⟩=some (.slice A2 n2 c2):=HP0.out.cell 3;have H1d:=Hq (show SlN W0.drew A1 n1 c1 d.ad from H1.out.kept (Below.refl _ _).drew (Nat.le_refl _));have H2d:=Hq (show SlN W0.drew A2 n2 c2 d.rm from H2.out.kept (Below.refl _ _).drew (Nat.le_refl _));clear h1 h2;unfold Dl.arr itD at hW0;unfold Dl.arr;go_enter Tryz.func21,Tryz.ntmps21;go_wp2;refine wp_region_K 7 (Below (W0.drew).heap.size (W0.drew)) (by kernel_rfl) ?_;intro hD;refine qPD 0 3 9 rfl hD (Below.refl _ _) ?_;clear hD;intro hD;simp only[Act.put,sqA,sqB,sqC];refine qTD 1 4 8 rfl hD (Below.refl _ _) (by intro w' hS';have e0:=cell_kept hS' (Nat.le_refl _) x2;have e1:=cell_kept hS' (Nat.le_refl _) x3;go_simp;with_reducible rfl) ?_;clear hD;intro hD;simp only[Act.put,sqA,sqB,sqC];refine qPD 3 6 7 rfl hD (Below.refl _ _) ?_;clear hD;intro hD;simp only[Act.put,sqA,sqB,sqC];refine qTD 4 7 6 rfl hD (Below.refl _ _) (by intro w' hS';have e0:=cell_kept hS' (Nat.le_refl _) x2;have e1:=cell_kept hS' (Nat.le_refl _) x3;go_simp;with_reducible rfl) ?_;clear hD;intro hD;simp only[Act.put,sqA,sqB,sqC];refine wpAnyK_one (i:=2) (fuel:=5) (by kernel_rfl) rfl hD ?_;clear hD;intro K2 hK2;go_wp2_with fail;refine(cl_nats d.ad A1 n1 c1 _ (H1d.out.kept (Below.refl _ _) (Nat.le_refl _)) (by omega)).mono ?_;rintro e w1 ⟨v3,rfl,hown,hb⟩;obtain⟨A3,c3,rfl,hs3,hf3⟩:=own_sln hown;have HB2:=Hq hb;have HS3:=Hq hs3;have HF3:=Hq hf3;clear hown hb hs3 hf3;go_wp2;refine hK2 _ _ (by exact HB2.out) ?_;clear hK2;intro hS_1_2 hD;refine qPD 6 9 4 rfl hD hS_1_2 ?_;clear hD;intro hD;simp only[Act.put,sqA,sqB,sqC];refine wpAnyK_one (i:=5) (fuel:=3) (by kernel_rfl) rfl hD ?_;clear hD;intro K5 hK5;go_wp2_with fail;refine(cl_nats d.rm A2 n2 c2 _ (H2d.out.kept hS_1_2 (Nat.le_refl _)) (by omega)).mono ?_;rintro e w2 ⟨v4,rfl,hown,hb⟩;obtain⟨A4,c4,rfl,hs4,hf4⟩:=own_sln hown;have HB5:=Hq hb;have HS4:=Hq hs4;have HF4:=Hq hf4;have hbl:=Below.trans hS_1_2 (Below.mono hb (Below.size hS_1_2));have HS32:=Hq (HS3.out.kept hb (Nat.le_refl _));have HP2:=Hq (show BxC w2 P _ _ from(show BxC W0.drew P _ _ from HP0.out).next hbl);have HR2:=Hq (show BxC w2 (P+1) _ _ from(show BxC W0.drew (P+1) _ _ from HR0.out).next hbl);have HG:=Hq (show W0.heap.size≤w1.heap.size from HB2.out.size);have HL2:=Hq (show Below P w w2 from HB0.out.trans ((((Below.refl _ _).drew).trans hbl).mono (show P≤W0.heap.size from by have:=HW0.out;omega)));have y2:w2.cell? ⟨P,2,none⟩=some (.slice A1 n1 c1):=HP2.out.cell 2;have f2:=HP2.out.free 2;clear hown hb hs4 hf4 hbl x2 x3;go_wp2;refine hK5 _ _ (by exact Below.trans hS_1_2 (Below.mono HB5.out (Below.size hS_1_2))) ?_;clear hK5;intro hS_1_5 hD;refine wpAnyK_oneT (i:=7) (fuel:=2) (by kernel_rfl) rfl hD (by kernel_rfl) ?_;clear hD;intro K7 hK7;go_wp2;refine hK7 _ _ ?_;clear hK7;intro hD;refine wpAnyK_pureTD (i:=8) (d:=some 10) (v:=?v1_8b1) (fuel:=1) rfl (by kernel_rfl) (by kernel_rfl) (by kernel_rfl) (fun _ _ _ h=>h) hD (.inl ⟨by kernel_rfl,?y1_8b1⟩) ?n1_8b1
 case y1_8b1=>intro w' _;go_simp;with_reducible rfl
 clear hD;intro hD;simp only[Act.put,sqA,sqB,sqC];refine wpAnyK_oneT (i:=9) (fuel:=0) (by kernel_rfl) rfl hD (by kernel_rfl) ?_;clear hD;intro K9 hK9;have y3:(w2.setCell ⟨P,2,none⟩ (.slice A3 n1 c3)).cell? ⟨P,3,none⟩=some (.slice A2 n2 c2):=(HP2.out.set (k:=2) (.slice A3 n1 c3)).cell 3;have f3:=(HP2.out.set (k:=2) (.slice A3 n1 c3)).free 3;go_wp2;refine hK9 _ _ ?_;clear hK9;intro hD;refine wpAnyK_done (by kernel_rfl) ?_ 0;clear hD;have HP3:=Hq (show BxC ((w2.setCell ⟨P,2,none⟩ (.slice A3 n1 c3)).setCell ⟨P,3,none⟩ (.slice A4 n2 c4)) P #[.int .i64 d.fr,.int .i64 d.to,.slice A3 n1 c3,.slice A4 n2 c4,.string d.be,.string d.af,.string d.sc,.string d.sr] 32 from(HP2.out.set (k:=2) (.slice A3 n1 c3)).set (k:=3) (.slice A4 n2 c4));have HR3:=Hq (show BxC ((w2.setCell ⟨P,2,none⟩ (.slice A3 n1 c3)).setCell ⟨P,3,none⟩ (.slice A4 n2 c4)) (P+1) itD 32 from(HR2.out.other (C:=P) (k:=2) (by omega) (.slice A3 n1 c3)).other (C:=P) (k:=3) (by omega) (.slice A4 n2 c4));have HB3:=Hq (show Below P w ((w2.setCell ⟨P,2,none⟩ (.slice A3 n1 c3)).setCell ⟨P,3,none⟩ (.slice A4 n2 c4))from(HL2.out.setCell (p:=⟨P,2,none⟩) (Nat.le_refl _) _).setCell (p:=⟨P,3,none⟩) (Nat.le_refl _) _);have HG3:=Hq (show 0<n1→∀ ad,A3=some ad→P+2≤ad.block from fun h0 ad he=>by have : W0.heap.size≤ad.block:=(HF3.out h0 ad he).1;have:=HW0.out;omega);have HG4:=Hq (show 0<n2→∀ ad,A4=some ad→P+2≤ad.block from fun h0 ad he=>by have:=(HF4.out h0 ad he).1;have:=HG.out;have:=HW0.out;omega);have HS3':=Hq (show SlN ((w2.setCell ⟨P,2,none⟩ (.slice A3 n1 c3)).setCell ⟨P,3,none⟩ (.slice A4 n2 c4)) A3 n1 c3 d.ad from HS32.out.of_blocks (fun h0 ad he=>by
  have:=HG3.out h0 ad he
  rw[heap_setCell_other _ _ _ _ (show ad.block≠P from by omega),heap_setCell_other _ _ _ _ (show ad.block≠P from by omega)]))
 have HS4':=Hq (show SlN ((w2.setCell ⟨P,2,none⟩ (.slice A3 n1 c3)).setCell ⟨P,3,none⟩ (.slice A4 n2 c4)) A4 n2 c4 d.rm from HS4.out.of_blocks (fun h0 ad he=>by
  have:=HG4.out h0 ad he
  rw[heap_setCell_other _ _ _ _ (show ad.block≠P from by omega),heap_setCell_other _ _ _ _ (show ad.block≠P from by omega)]))
 obtain⟨W3,hW3⟩:∃ W3,((w2.setCell ⟨P,2,none⟩ (.slice A3 n1 c3)).setCell ⟨P,3,none⟩ (.slice A4 n2 c4))=W3:=⟨_,rfl⟩;rw[hW3]at HP3 HR3 HB3 HS3' HS4'⊢;clear hW3 y2 f2;have k0:W3.cell? ⟨P,0,none⟩=some (.int .i64 d.fr):=HP3.out.cell 0;have k1:W3.cell? ⟨P,1,none⟩=some (.int .i64 d.to):=HP3.out.cell 1;have k2:W3.cell? ⟨P,2,none⟩=some (.slice A3 n1 c3):=HP3.out.cell 2;have k3:W3.cell? ⟨P,3,none⟩=some (.slice A4 n2 c4):=HP3.out.cell 3;have k4:W3.cell? ⟨P,4,none⟩=some (.string d.be):=HP3.out.cell 4;have k5:W3.cell? ⟨P,5,none⟩=some (.string d.af):=HP3.out.cell 5;have k6:W3.cell? ⟨P,6,none⟩=some (.string d.sc):=HP3.out.cell 6;have k7:W3.cell? ⟨P,7,none⟩=some (.string d.sr):=HP3.out.cell 7;go_wp2_with (refine wpList_store_rowTo rfl 32 _ _ rfl rfl (P+1) #[.int .i64 d.fr,.int .i64 d.to,.slice A3 n1 c3,.slice A4 n2 c4,.string d.be,.string d.af,.string d.sc,.string d.sr] rfl rfl 32 itD HR3.out (by kernel_rfl) rfl (by simp[Value.oneCell']) ?_);have HRZ:=Hq (show BxC (W3.setRow (P+1) #[.int .i64 d.fr,.int .i64 d.to,.slice A3 n1 c3,.slice A4 n2 c4,.string d.be,.string d.af,.string d.sc,.string d.sr]) (P+1) #[.int .i64 d.fr,.int .i64 d.to,.slice A3 n1 c3,.slice A4 n2 c4,.string d.be,.string d.af,.string d.sc,.string d.sr] 32 from setRow_heap _ _ _ _ _ _ HR3.out);have HBZ:=Hq (below_setRow HB3.out (g:=P+1) (by omega) #[.int .i64 d.fr,.int .i64 d.to,.slice A3 n1 c3,.slice A4 n2 c4,.string d.be,.string d.af,.string d.sc,.string d.sr]);have z0:(W3.setRow (P+1) #[.int .i64 d.fr,.int .i64 d.to,.slice A3 n1 c3,.slice A4 n2 c4,.string d.be,.string d.af,.string d.sc,.string d.sr]).cell? ⟨P+1,0,none⟩=some (.int .i64 d.fr):=HRZ.out.cell 0;have z1:(W3.setRow (P+1) #[.int .i64 d.fr,.int .i64 d.to,.slice A3 n1 c3,.slice A4 n2 c4,.string d.be,.string d.af,.string d.sc,.string d.sr]).cell? ⟨P+1,1,none⟩=some (.int .i64 d.to):=HRZ.out.cell 1;have z2:(W3.setRow (P+1) #[.int .i64 d.fr,.int .i64 d.to,.slice A3 n1 c3,.slice A4 n2 c4,.string d.be,.string d.af,.string d.sc,.string d.sr]).cell? ⟨P+1,2,none⟩=some (.slice A3 n1 c3):=HRZ.out.cell 2;have z3:(W3.setRow (P+1) #[.int .i64 d.fr,.int .i64 d.to,.slice A3 n1 c3,.slice A4 n2 c4,.string d.be,.string d.af,.string d.sc,.string d.sr]).cell? ⟨P+1,3,none⟩=some (.slice A4 n2 c4):=HRZ.out.cell 3;have z4:(W3.setRow (P+1) #[.int .i64 d.fr,.int .i64 d.to,.slice A3 n1 c3,.slice A4 n2 c4,.string d.be,.string d.af,.string d.sc,.string d.sr]).cell? ⟨P+1,4,none⟩=some (.string d.be):=HRZ.out.cell 4;have z5:(W3.setRow (P+1) #[.int .i64 d.fr,.int .i64 d.to,.slice A3 n1 c3,.slice A4 n2 c4,.string d.be,.string d.af,.string d.sc,.string d.sr]).cell? ⟨P+1,5,none⟩=some (.string d.af):=HRZ.out.cell 5;have z6:(W3.setRow (P+1) #[.int .i64 d.fr,.int .i64 d.to,.slice A3 n1 c3,.slice A4 n2 c4,.string d.be,.string d.af,.string d.sc,.string d.sr]).cell? ⟨P+1,6,none⟩=some (.string d.sc):=HRZ.out.cell 6;have z7:(W3.setRow (P+1) #[.int .i64 d.fr,.int .i64 d.to,.slice A3 n1 c3,.slice A4 n2 c4,.string d.be,.string d.af,.string d.sc,.string d.sr]).cell? ⟨P+1,7,none⟩=some (.string d.sr):=HRZ.out.cell 7;exact bodyPost_ret (v:=.agg #[.int .i64 d.fr,.int .i64 d.to,.slice A3 n1 c3,.slice A4 n2 c4,.string d.be,.string d.af,.string d.sc,.string d.sr]) (by simp[results,Tryz.results21,go_sem,z0,z1,z2,z3,z4,z5,z6,z7]) rfl ⟨A3,n1,c3,A4,n2,c4,rfl,HS3'.out.of_blocks (fun h0 ad he=>setRow_other _ _ _ _ (by have:=HG3.out h0 ad he;omega)),HS4'.out.of_blocks (fun h0 ad he=>setRow_other _ _ _ _ (by have:=HG4.out h0 ad he;omega)),(fun h0 ad he=>by have:=HG3.out h0 ad he;have:=HPE.out;omega),(fun h0 ad he=>by have:=HG4.out h0 ad he;have:=HPE.out;omega),by rw[HPE.out];exact HBZ.out⟩
def SlO(w:World)(row:Option Nat)(A:Option Addr)(n c:Nat)(l:List ByteArray):Prop:=SlN w A n c l∧(0<n→∀ a,A=some a→row≠some a.block)
theorem SlO.kept{B:Nat}{w w':World}{row:Option Nat}(hb:Below B w w')(hB:w.heap.size≤B){A:Option Addr}{n c:Nat}{l:List ByteArray}(h:SlO w row A n c l):SlO w' row A n c l:=⟨h.1.kept hb hB,h.2⟩
theorem SlO.grow{w w':World}{row:Option Nat}{g:Nat}(hg:w.grownBy w' row)(ha:row=some g∨g=w.heap.size){A:Option Addr}{n c:Nat}{l:List ByteArray}(h:SlO w row A n c l):SlO w' (some g) A n c l:=by
 refine⟨h.1.of_blocks fun hn a e=>?_,fun hn a e=>?_⟩
 · subst e;exact hg.block a.block (h.1.lt hn) (fun e=>(h.2 hn a rfl) e.symm)
 · rcases ha with ha | ha
   · rw[←ha];exact h.2 hn a e
   · subst e;have:=h.1.lt hn;simp only[ne_eq,Option.some.injEq];omega
def DRow(w:World)(row:Option Nat):List Value→List Dl→Prop
 | vs,[]=>vs=[]
 | vs,d::l=>∃ A1 n1 c1 A2 n2 c2 rest,vs=d.vals (.slice A1 n1 c1) (.slice A2 n2 c2)++rest∧SlO w row A1 n1 c1 d.ad∧SlO w row A2 n2 c2 d.rm∧DRow w row rest l
theorem DRow.imp{w w':World}{row row':Option Nat}(hi:∀ A n c l,SlO w row A n c l→SlO w' row' A n c l):∀ {vs:List Value} {l:List Dl},DRow w row vs l→DRow w' row' vs l
 | _,[],h=>h
 | _,_::_,⟨A1,n1,c1,A2,n2,c2,rest,h1,h2,h3,h4⟩=>⟨A1,n1,c1,A2,n2,c2,rest,h1,hi _ _ _ _ h2,hi _ _ _ _ h3,h4.imp hi⟩
theorem DRow.kept{B:Nat}{w w':World}{row:Option Nat}(hb:Below B w w')(hB:w.heap.size≤B){vs:List Value}{l:List Dl}(h:DRow w row vs l):DRow w' row vs l:=h.imp fun _ _ _ _ h=>h.kept hb hB
theorem DRow.grow{w w':World}{row:Option Nat}{g:Nat}(hg:w.grownBy w' row)(ha:row=some g∨g=w.heap.size){vs:List Value}{l:List Dl}(h:DRow w row vs l):DRow w' (some g) vs l:=h.imp fun _ _ _ _ h=>h.grow hg ha
theorem Dl.vals_length(d:Dl)(a r:Value):(d.vals a r).length=8:=rfl
theorem DRow.length{w:World}{row:Option Nat}:∀ {vs:List Value} {l:List Dl},DRow w row vs l→vs.length=l.length * 8
 | _,[],h=>by rw[show _=[]from h];rfl
 | _,_::_,⟨_,_,_,_,_,_,rest,h1,_,_,h4⟩=>by rw[h1,List.length_append,h4.length,Dl.vals_length,List.length_cons];omega
theorem DRow.snoc{w:World}{row:Option Nat}{d:Dl}{A1 A2:Option Addr}{n1 c1 n2 c2:Nat}(h1:SlO w row A1 n1 c1 d.ad)(h2:SlO w row A2 n2 c2 d.rm):∀ {vs:List Value} {l:List Dl},DRow w row vs l→DRow w row (vs++d.vals (.slice A1 n1 c1) (.slice A2 n2 c2)) (l++[d])
 | vs,[],h=>⟨A1,n1,c1,A2,n2,c2,[],by rw[show vs=[]from h];simp,h1,h2,rfl⟩
 | _,_::_,⟨B1,m1,e1,B2,m2,e2,rest,g1,g2,g3,g4⟩=>⟨B1,m1,e1,B2,m2,e2,rest++d.vals (.slice A1 n1 c1) (.slice A2 n2 c2),by rw[g1,List.append_assoc],g2,g3,g4.snoc h1 h2⟩
theorem DRow.get{w:World}{row:Option Nat}:∀ {vs:List Value} {l:List Dl} {k:Nat} {d:Dl},DRow w row vs l→l[k]? =some d→∃ A1 n1 c1 A2 n2 c2,SlN w A1 n1 c1 d.ad∧SlN w A2 n2 c2 d.rm∧∀ j u,(d.vals (.slice A1 n1 c1) (.slice A2 n2 c2))[j]? =some u→vs[k * 8+j]? =some u
 | _,[],_,_,_,hk=>by simp at hk
 | _,d'::l,0,d,⟨A1,n1,c1,A2,n2,c2,rest,h1,h2,h3,h4⟩,hk=>by
  simp only[List.getElem?_cons_zero,Option.some.injEq]at hk;subst hk;refine⟨A1,n1,c1,A2,n2,c2,h2.1,h3.1,fun j u hu=>?_⟩;have hj:=(List.getElem?_eq_some_iff.1 hu).1;rw[h1,Nat.zero_mul,Nat.zero_add,List.getElem?_append_left hj];exact hu
 | _,d'::l,k+1,d,⟨A1,n1,c1,A2,n2,c2,rest,h1,h2,h3,h4⟩,hk=>by
  obtain⟨B1,m1,e1,B2,m2,e2,g1,g2,g3⟩:=h4.get (k:=k) (by simpa using hk);refine⟨B1,m1,e1,B2,m2,e2,g1,g2,fun j u hu=>?_⟩;rw[h1,List.getElem?_append_right (by rw[Dl.vals_length];omega),Dl.vals_length,show (k+1) * 8+j - 8=k * 8+j from by omega];exact g3 j u hu
theorem Dl.oneV(d:Dl){A1 A2:Option Addr}{n1 c1 n2 c2:Nat}:∀ u∈d.vals (.slice A1 n1 c1) (.slice A2 n2 c2),u.oneCell'=true:=by
 intro u hu;simp only[Dl.vals,List.mem_cons,List.mem_nil_iff,or_false]at hu;rcases hu with h | h | h | h | h | h | h | h<;>subst h<;>rfl
theorem DRow.one{w:World}{row:Option Nat}:∀ {vs:List Value} {l:List Dl},DRow w row vs l→∀ u∈vs,u.oneCell'=true
 | _,[],h=>by rw[show _=[]from h];intro u hu;cases hu
 | _,d::_,⟨_,_,_,_,_,_,rest,h1,_,_,h4⟩=>by
  intro u hu;rw[h1,List.mem_append]at hu;rcases hu with hu | hu
  · exact d.oneV u hu
  · exact h4.one u hu
theorem SlD.of_owns{w:World}{base:Nat}{T:TypeId}{rv:Value}{n:Nat}{vs:List Value}{l:List Dl}{row:Option Nat}(h:w.ownsRow base T 8 rv n vs)(hr:DRow w row vs l):l.length=n∧∃ A cap,rv=.slice A n cap∧SlD w A n cap l:=by
 have hl:=h.1;rw[hr.length]at hl;have hln:l.length=n:=by omega
 refine⟨hln,?_⟩;rcases h.2 with⟨hv,h0⟩ | ⟨g,cap,cur,hv,hb,hh,hc,hm,hs,ht⟩
 · subst h0;have : l=[]:=List.length_eq_zero_iff.1 hln;subst this;exact⟨none,0,hv,SlD.nil _ _ _ (by omega)⟩
 · refine⟨_,cap,hv,hln,hc,by unfold maxLen at hm;exact hm,g,0,fun _=>rfl,fun k d hk=>?_⟩;obtain⟨A1,m1,c1,A2,m2,c2,h1,h2,h3⟩:=hr.get hk;refine⟨A1,m1,c1,A2,m2,c2,fun j u hu=>?_,h1,h2⟩;have hcell:=h.cells (g:=g) (by rw[hv];rfl) (k * 8+j) u (h3 j u hu);rw[addr_add,Nat.zero_add]at hcell;rw[show 0+k * 8+j=k * 8+j from by omega];exact hcell
theorem drow_of{w:World}{b:Nat}:∀(l:List Dl) (o:Nat),(∀ k d,l[k]? =some d→∃ A1 n1 c1 A2 n2 c2,DIn w b (o+k * 8) d A1 n1 c1 A2 n2 c2)→∃ vs,DRow w none vs l∧∀ j u,vs[j]? =some u→w.cell? ⟨b,o+j,none⟩=some u
 | [],o,_=>⟨[],rfl,fun j u h=>by simp at h⟩
 | d::l,o,h=>by
  obtain⟨vs,h1,h2⟩:=drow_of l (o+8) (fun k x hk=>by
   have:=h (k+1) x (by simpa using hk);rw[show o+(k+1) * 8=o+8+k * 8 from by omega]at this
   exact this)
  obtain⟨A1,n1,c1,A2,n2,c2,h3,h4,h5⟩:=h 0 d rfl;refine⟨d.vals (.slice A1 n1 c1) (.slice A2 n2 c2)++vs,⟨A1,n1,c1,A2,n2,c2,vs,rfl,⟨h4,fun _ _ _ e=>by cases e⟩,⟨h5,fun _ _ _ e=>by cases e⟩,h1⟩,fun j u hu=>?_⟩;rcases Nat.lt_or_ge j 8 with hj | hj
  · rw[List.getElem?_append_left (by rw[Dl.vals_length];exact hj)]at hu;have:=h3 j u hu;rw[show o+0 * 8+j=o+j from by omega]at this;exact this
  · rw[List.getElem?_append_right (by rw[Dl.vals_length];exact hj),Dl.vals_length]at hu;have:=h2 (j - 8) u hu;rw[show o+8+(j - 8)=o+j from by omega]at this;exact this
theorem SlD.row{w:World}{A:Option Addr}{len cap:Nat}{l:List Dl}(h:SlD w A len cap l):∃ vs,DRow w none vs l∧∀ b o,A=some ⟨b,o,none⟩→∀ j u,vs[j]? =some u→w.cell? ⟨b,o+j,none⟩=some u:=by
 obtain⟨h1,_,_,b,o,h4,h5⟩:=h;obtain⟨vs,h6,h7⟩:=drow_of l o h5;refine⟨vs,h6,fun b' o' e j u hj=>?_⟩;have hl:=(List.getElem?_eq_some_iff.1 hj).1;rw[h6.length]at hl;have:=h4 (by omega);rw[e]at this;simp only[Option.some.injEq,Addr.mk.injEq,and_true]at this;obtain⟨rfl,rfl⟩:=this;exact h7 j u hj
def apL(l:List Dl)(d:Dl):List Dl×Int:=match l.getLast? with
 | none=>(l++[d],0)
 | some x=>if x.af≠d.be then([],1)else(l++[d],0)
def apR(ck:Int)(l:List Dl)(d:Dl):List Dl×Int:=
 if ck≠0 then([],ck)else if d.fr≠l.length∨d.to≠d.fr+1 then([],21)else apL l d
def RetLg(k:IntKind)(r:List Dl×Int)(w:World)(e:Ending)(w':World):Prop:=∃ A c,e=.returned (.tuple #[.slice A r.1.length c,.int k r.2])∧SlD w' A r.1.length c r.1∧Below w.heap.size w w'
def atR(l:List Dl)(i:Int):ByteArray×Int:=if i<0∨(l.length:Int)<i then(⟨#[]⟩,2)else match l with
 | []=>(⟨#[]⟩,9)
 | d::_=>if i=0 then(d.be,0)else match l[(i - 1).toNat]? with
  | none=>(⟨#[]⟩,2)
  | some x=>(x.af,0)
theorem dl_info:(Tryz.prog.info? 32).map (fun i=>(i.zero,i.size,i.bytes))=some (some (.agg itD),8,128):=by kernel_rfl
theorem wpList_append_emptyD{ops:Array Oper}{rest:List Oper}{o:Oper}{a:Act}{w:World}{Q:Exit→Act→World→Prop}(hg:o.guard=none)(s x:Operand)(hop:o.op=Op.call { callee:=Callee.builtin Builtin.append,args:=#[s,x],argTypes:=#[27,27] })
 (hs:a.eval s=.slice none 0 0) (A:Option Addr) (m:Nat) (hx:a.eval x=.slice A 0 m)
 (hK:wpList Tryz.prog ops Q rest (a.put o.dst (.slice none 0 0)) w):wpList Tryz.prog ops Q (o::rest) a w:=by
 obtain⟨i0,hi,iz0,iz1,iz2⟩:=info_parts dl_info;refine wpList_plain hg fun K hK'=>?_;have hrun:(Builtin.append_ #[27,27] o.type #[.slice none 0 0,.slice A 0 m]).run Tryz.prog w=.ok (.slice none 0 0) w:=by
  cases A with
  | none=>simp[Builtin.append_,run_underlying Tryz.underlying27,sizeOf,typeInfo,hi,storeCells,go_sem]
  | some ad =>
   have hlc:=run_loadCells_list (P:=Tryz.prog) w ad [] (by intro j v hj;simp at hj);simp[Builtin.append_,run_underlying Tryz.underlying27,sizeOf,typeInfo,hi,storeCells,go_sem,hlc]
 unfold Oper.wp;simp[execOp,hop,resolve,invoke,builtin,hs,hx,hrun,Result.andThen];exact hK' _ _ hK
theorem wpList_append_dls{ops:Array Oper}{rest:List Oper}{o:Oper}{a:Act}{w:World}{Q:Exit→Act→World→Prop}(hg:o.guard=none)(s x:Operand)(hop:o.op=Op.call { callee:=Callee.builtin Builtin.append,args:=#[s,x],argTypes:=#[27,27] })
 (hs:a.eval s=.slice none 0 0) (A:Option Addr) (len cap:Nat) (hx:a.eval x=.slice A len cap) (l:List Dl) (hl:SlD w A len cap l) (hlen:len≤100)
 (hK:∀ rv vs w',w'.ownsRow w.heap.size 32 8 rv len vs→DRow w' rv.ownBlock vs l→Below w.heap.size w w'→wpList Tryz.prog ops Q rest (a.put o.dst rv) w'):wpList Tryz.prog ops Q (o::rest) a w:=by
 rcases Nat.eq_zero_or_pos len with h0 | h0
 · subst h0;have : l=[]:=List.length_eq_zero_iff.1 hl.1;subst this;exact wpList_append_emptyD hg s x hop hs A cap hx (hK _ [] w (World.ownsRow_nil _ _ _ _) rfl (Below.refl _ _))
 · obtain⟨b,p,rfl⟩:∃ b p,A=some ⟨b,p,none⟩:=by obtain⟨_,_,_,b,o,h4,_⟩:=hl;exact⟨b,o,h4 h0⟩
   obtain⟨vs,hvb,hcl⟩:=hl.row;have hvl:vs.length=len * 8:=by rw[hvb.length,hl.1]
   obtain⟨i0,hi,iz0,iz1,iz2⟩:=info_parts dl_info;refine wpList_append_lies _ hg s x 27 hop w.heap.size 32 i0 _ 8 128 Tryz.underlying27 hi iz0 iz1 iz2 rfl (by decide) _ 0 [] hs (World.ownsRow_nil _ _ _ _) ⟨b,p,none⟩ len cap vs hx hvl (fun j u hj=>by
    have e:(⟨b,p,none⟩:Addr).add j=⟨b,p+j,none⟩:=by unfold Addr.add;split<;>simp_all
    rw[e]
    exact hcl b p rfl j u hj) hvb.one h0 (by unfold maxLen;omega) (by omega) (Nat.le_refl _) _ rfl ?_
   intro g cap7 w7 hown hgrow hat hlt;rw[Nat.zero_add,List.nil_append]at hown;rw[Nat.zero_add];have hb:Below w.heap.size w w7:=(Below.refl _ _).grown hgrow (Nat.le_refl _) (fun k e=>by cases e);exact hK _ vs w7 hown (hvb.grow hgrow hat) hb
theorem dl_fill(d:Dl)(A1:Option Addr)(n1 c1:Nat)(A2:Option Addr)(n2 c2:Nat):Instr.fill (fun i=>some (i * 8,8)) ((Array.range (1 * 8)).map ((Value.agg itD).cells[· % (Value.agg itD).cells.size]!)) [(0,.agg (d.arr (.slice A1 n1 c1) (.slice A2 n2 c2)))]=some (d.arr (.slice A1 n1 c1) (.slice A2 n2 c2)):=by kernel_rfl
theorem wpList_build_dl{ops:Array Oper}{rest:List Oper}{o:Oper}{a:Act}{w:World}{Q:Exit→Act→World→Prop}(hg:o.guard=none)(x:Operand)(ho:o.op=.buildSlice 27 1 #[(0,x)])(d:Dl)(A1:Option Addr)(n1 c1:Nat)(A2:Option Addr)(n2 c2:Nat)(hx:a.eval x=.agg (d.arr (.slice A1 n1 c1) (.slice A2 n2 c2)))
 (h:wpList Tryz.prog ops Q rest (a.put o.dst (.slice (some ⟨w.heap.size,0,none⟩) 1 1)) (w.alloc (.cells (d.arr (.slice A1 n1 c1) (.slice A2 n2 c2)) 32))):wpList Tryz.prog ops Q (o::rest) a w:=by
 obtain⟨i0,hi,iz0,iz1,iz2⟩:=info_parts dl_info;refine wpList_buildSlice hg _ 32 1 _ ho (d.arr (.slice A1 n1 c1) (.slice A2 n2 c2)) i0 _ Tryz.underlying27 hi iz0 (by rw[iz1];decide) (by rw[iz1];decide) ?_ h;rw[iz1];have e:(Array.map (fun x=>(x.1,a.eval x.2)) #[(0,x)]).toList=[(0,.agg (d.arr (.slice A1 n1 c1) (.slice A2 n2 c2)))]:=by simp[hx]
 show Instr.fill _ _ (Array.map (fun x=>(x.1,a.eval x.2)) #[(0,x)]).toList=_;rw[e];exact dl_fill d A1 n1 c1 A2 n2 c2
end Go.Proofs.YthcekkeknonefaaGreat

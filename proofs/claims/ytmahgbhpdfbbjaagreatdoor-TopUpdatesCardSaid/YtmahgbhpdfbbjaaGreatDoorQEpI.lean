import Derived.Test.YtmahgbhpdfbbjaaGreatDoorQEpF
import Derived.Shelf.SlSortCmp.Whole1
set_option linter.unusedVariables false
set_option linter.unusedSimpArgs false
namespace Go.Proofs.YtmahgbhpdfbbjaaGreatDoor
set_option maxRecDepth 100000
set_option maxHeartbeats 4000000
open Go.RowKit Go.Shelf
def txt(a:ByteArray):It:=.mk 1 ⟨#[]⟩ a []
def lstI(l:List It):It:=.mk 2 ⟨#[]⟩ ⟨#[]⟩ l
def Dl.it(d:Dl):It:=lstI [txt ⟨#[100,101,108,116,97]⟩,natIt (bstr (encN d.fr.toNat)),natIt (bstr (encN d.to.toNat)),lstI (d.ad.map natIt),lstI (d.rm.map natIt),natIt d.be,natIt d.af]
def Dl.msg(d:Dl):ByteArray×Int:=if d.form=0 then encS d.it else(⟨#[]⟩,d.form)
theorem Dl.form_ok{d:Dl}(h:d.form=0):d.okN=true∧¬ d.rng∧d.twice=false∧d.low=false:=by
 unfold Dl.form at h;split at h
 · cases h
 · split at h
   · cases h
   · split at h
     · cases h
     · split at h
       · cases h
       · rename_i h1 h2 h3 h4;exact⟨by simpa using h1,h2,by simpa using h3,by simpa using h4⟩
theorem below_allocE{W W':World}{o:Obj}(h:W'=W.alloc o):Below W.heap.size W W':=by rw[h];exact(blr).alloc nlr _
theorem bxc_alloc{W W':World}{cs:Array Value}{T:TypeId}(h:W'=W.alloc (.cells cs T)):BxC W' W.heap.size cs T:=by rw[h];exact BxC.new _ _ _
theorem natIt_weight(l:List ByteArray)(h:∀ s∈l,s.size≤128):Its.weight (l.map natIt)≤l.length * 139:=by
 induction l with
 | nil=>simp[Its.weight]
 | cons a l ih =>
  have h1:=ih (fun s hs=>h s (List.mem_cons_of_mem _ hs));have h2:=h a List.mem_cons_self;have e1:(⟨#[]⟩:ByteArray).size=0:=rfl;simp only[List.map_cons,Its.weight,natIt,It.weight,List.length_cons]at h1⊢;omega
theorem Dl.it_weight{d:Dl}(h:d.form=0)(hn:d.ad.length≤400000)(hn':d.rm.length≤400000):d.it.weight≤1000000000∧Its.nodes d.it.list≤1000000000000:=by
 obtain⟨hv,hr,_⟩:=d.form_ok h;have g1:=natIt_weight d.ad (fun s h=>size_valid (d.okN_ad hv s h));have g2:=natIt_weight d.rm (fun s h=>size_valid (d.okN_rm hv s h));have g3:=size_valid (d.okN_mem hv (y:=d.be) (by simp));have g4:=size_valid (d.okN_mem hv (y:=d.af) (by simp));have e0:(⟨#[]⟩:ByteArray).size=0:=rfl;have e1:(⟨#[100,101,108,116,97]⟩:ByteArray).size=5:=rfl;have h1:d.fr.toNat≤4096:=by unfold Dl.rng at hr;omega
 have h2:d.to.toNat≤4096:=by unfold Dl.rng at hr;omega
 have n1:(encN d.fr.toNat).length≤8:=encN_length_le.2 (by omega);have n2:(encN d.to.toNat).length≤8:=encN_length_le.2 (by omega);have hd1:=natIt_nodes d.ad;have hd2:=natIt_nodes d.rm;constructor
 · generalize hq:List.map natIt d.ad=q at *;generalize hq':List.map natIt d.rm=q' at *;simp only[Dl.it,lstI,txt,hq,hq',It.weight,Its.weight];simp only[natIt,It.weight,Its.weight,bstr_size,e0,e1];omega
 · generalize hq:List.map natIt d.ad=q at *;generalize hq':List.map natIt d.rm=q' at *;simp only[Dl.it,lstI,txt,hq,hq',It.list,It.nodes,Its.nodes];simp only[natIt,It.nodes,Its.nodes];omega
theorem row7{w:World}{T:TypeId}{fr:Nat×Nat}{b:Nat}{k0 k1 k2 k3 k4 k5 k6:Int}{n0 n1 n2 n3 n4 n5 n6 t0 t1 t2 t3 t4 t5 t6:ByteArray}{A3 A4:Option Addr}{l3 c3 l4 c4:Nat}{i3 i4:List It}{ok3 ok4:Nat→Prop}
 (hb:w.heap[b]? =some (.cells #[.int .i64 k0,.string n0,.string t0,.slice none 0 0,.int .i64 k1,.string n1,.string t1,.slice none 0 0,.int .i64 k2,.string n2,.string t2,.slice none 0 0,.int .i64 k3,.string n3,.string t3,.slice A3 l3 c3,.int .i64 k4,.string n4,.string t4,.slice A4 l4 c4,.int .i64 k5,.string n5,.string t5,.slice none 0 0,.int .i64 k6,.string n6,.string t6,.slice none 0 0] T fr))
 (h3:SlAt w ok3 A3 l3 c3 i3) (h4:SlAt w ok4 A4 l4 c4 i4) :
 SlAt w (fun _=>True) (some ⟨b,0,none⟩) 7 7 [.mk k0 n0 t0 [],.mk k1 n1 t1 [],.mk k2 n2 t2 [],.mk k3 n3 t3 i3,.mk k4 n4 t4 i4,.mk k5 n5 t5 [],.mk k6 n6 t6 []]:=by
 have hc:=fun k=>Lib.cell_of_heap hb (j:=k);refine⟨rfl,Nat.le_refl _,by omega,b,0,fun _=>⟨rfl,trivial⟩,?_⟩;exact⟨CellsAt.mk' (hc 0) (hc 1) (hc 2) (hc 3) (SlAt.nil _ _),CellsAt.mk' (hc 4) (hc 5) (hc 6) (hc 7) (SlAt.nil _ _),CellsAt.mk' (hc 8) (hc 9) (hc 10) (hc 11) (SlAt.nil _ _),CellsAt.mk' (hc 12) (hc 13) (hc 14) (hc 15) (h3.low (fun _ _=>trivial)),CellsAt.mk' (hc 16) (hc 17) (hc 18) (hc 19) (h4.low (fun _ _=>trivial)),CellsAt.mk' (hc 20) (hc 21) (hc 22) (hc 23) (SlAt.nil _ _),CellsAt.mk' (hc 24) (hc 25) (hc 26) (hc 27) (SlAt.nil _ _),trivial⟩
theorem ep_Message(d:Dl)(A A':Option Addr)(n c n' c':Nat)(w:World)(hs:SlN w A n c d.ad)(hs':SlN w A' n' c' d.rm)(hn:n≤400000)(hn':n'≤400000)(hz:SzL d.str):Calls Tryz.prog 56 #[.agg (d.arr (.slice A n c) (.slice A' n' c'))] w (RetSE d.msg w):=by
 obtain⟨W0,hW0⟩:=nm (w.alloc (.cells (d.arr (.slice A n c) (.slice A' n' c')) 50));have HX0:=Hq (show BxC W0 w.heap.size (d.arr (.slice A n c) (.slice A' n' c')) 50 from by rw[←hW0];exact BxC.new w _ _);have HB0:=Hq (show Below w.heap.size w W0 from by rw[←hW0];exact(blr).alloc nlr _);have HW0:=Hq (show w.heap.size+1=W0.heap.size from by rw[←hW0];simp);have HS:=Hq (hs.kept HB0.out nlr);have HS':=Hq (hs'.kept HB0.out nlr);have HZ:=Hq hz;have hc:=hs.2.1;have hc2:=hs.2.2.1;have hc':=hs'.2.1;have hc2':=hs'.2.2.1;have HN:=Hq hs.1;have HN':=Hq hs'.1;have x0:W0.cell? ⟨w.heap.size,0,none⟩=some (.int .i64 d.fr):=HX0.out.cell 0;have x1:W0.cell? ⟨w.heap.size,1,none⟩=some (.int .i64 d.to):=HX0.out.cell 1;have x2:W0.cell? ⟨w.heap.size,2,none⟩=some (.slice A n c):=HX0.out.cell 2;have x3:W0.cell? ⟨w.heap.size,3,none⟩=some (.slice A' n' c'):=HX0.out.cell 3;have x4:W0.cell? ⟨w.heap.size,4,none⟩=some (.string d.be):=HX0.out.cell 4;have x5:W0.cell? ⟨w.heap.size,5,none⟩=some (.string d.af):=HX0.out.cell 5;have x6:W0.cell? ⟨w.heap.size,6,none⟩=some (.string d.sc):=HX0.out.cell 6;have x7:W0.cell? ⟨w.heap.size,7,none⟩=some (.string d.sr):=HX0.out.cell 7;have HC:=Hq (ep_form d A A' n c n' c' W0 HS.out HS'.out hn hn' hz);clear hs hs' hz;unfold Dl.arr at hW0⊢;go_enter Tryz.func56,Tryz.ntmps56;go_wp2_with fail;refine(show Calls _ _ _ _ _ from HC.out).mono ?_;rintro e w1 ⟨rfl,hb⟩;have HX1:=Hq (HX0.out.kept hb HX0.out.lt);have HB1:=bTr HB0 hb;have HSA:=Hq (HS.out.kept hb nlr);have HSR:=Hq (HS'.out.kept hb nlr);clear hb x0 x1 x2 x3 x4 x5 x6 x7 hW0 HC;obtain⟨F,hF⟩:=nm (d.form);rw[hF];by_cases h0:F=0
 · subst h0;have HFO:=Hq hF;have HM:=Hq (show d.msg=encS d.it from by unfold Dl.msg;rw[if_pos hF]);obtain⟨hv,hr,_⟩:=d.form_ok hF;have hwn:=d.it_weight hF (by rw[HN.out];exact hn) (by rw[HN'.out];exact hn');obtain⟨N,hN⟩:=nm (d.fr.toNat);obtain⟨T,hT⟩:=nm (d.to.toNat);unfold Dl.rng at hr;have hN4:N≤4096:=by omega
   have hT4:T≤4096:=by omega
   have hNe:d.fr=(N:Int):=by omega
   have hTe:d.to=(T:Int):=by omega
   have HIE:=Hq (show It.mk 2 ⟨#[]⟩ ⟨#[]⟩ [.mk 1 ⟨#[]⟩ ⟨#[100,101,108,116,97]⟩ [],.mk 0 (bstr (encN N)) ⟨#[]⟩ [],.mk 0 (bstr (encN T)) ⟨#[]⟩ [],.mk 2 ⟨#[]⟩ ⟨#[]⟩ (d.ad.map natIt),.mk 2 ⟨#[]⟩ ⟨#[]⟩ (d.rm.map natIt),.mk 0 d.be ⟨#[]⟩ [],.mk 0 d.af ⟨#[]⟩ []]=d.it from by rw[←hN,←hT];rfl);have HWE:=Hq hwn.1;have HNO:=Hq hwn.2;rw[←HIE.out]at HWE HNO;have b0:w1.drew.cell? ⟨w.heap.size,0,none⟩=some (.int .i64 (N:Int)):=(HX1.out.cell 0).trans (by rw[←hNe];rfl);have b1:w1.drew.cell? ⟨w.heap.size,1,none⟩=some (.int .i64 (T:Int)):=(HX1.out.cell 1).trans (by rw[←hTe];rfl);have b2:w1.drew.cell? ⟨w.heap.size,2,none⟩=some (.slice A n c):=HX1.out.cell 2;have b3:w1.drew.cell? ⟨w.heap.size,3,none⟩=some (.slice A' n' c'):=HX1.out.cell 3;have b4:w1.drew.cell? ⟨w.heap.size,4,none⟩=some (.string d.be):=HX1.out.cell 4;have b5:w1.drew.cell? ⟨w.heap.size,5,none⟩=some (.string d.af):=HX1.out.cell 5;have HSAd:=Hq (show SlN w1.drew A n c d.ad from HSA.out.kept (blr).drew nlr);have HSRd:=Hq (show SlN w1.drew A' n' c' d.rm from HSR.out.kept (blr).drew nlr);clear hF hv hr hwn hN hT;obtain⟨aw,haw⟩:∃ aw:Array Value,aw=#[.int .i64 d.fr,.int .i64 d.to,.slice A n c,.slice A' n' c',.string d.be,.string d.af,.string d.sc,.string d.sr]:=⟨_,rfl⟩;rw[←haw];clear haw hNe hTe;go_wp2;refine wp_region_K 23 (Below (w1.drew).heap.size (w1.drew)) (by kernel_rfl) ?_;refine qPDs 1 12 27 blr ?_;refine qPDs 2 13 26 blr ?_;refine qTDs 3 14 25 blr (fun w' hS'=>(And.intro (kc hS' b0) (And.intro (kc hS' b1) (And.intro (kc hS' b2) (And.intro (kc hS' b3) (And.intro (kc hS' b4) (kc hS' b5))))))) ?_;refine qPDs 5 16 24 blr ?_;refine qPDs 6 17 23 blr ?_;refine qTDs 7 18 22 blr (fun w' hS'=>(And.intro (kc hS' b0) (And.intro (kc hS' b1) (And.intro (kc hS' b2) (And.intro (kc hS' b3) (And.intro (kc hS' b4) (kc hS' b5))))))) ?_;refine qPDs 9 20 21 blr ?_;refine qTDs 10 21 20 blr (fun w' hS'=>(And.intro (kc hS' b0) (And.intro (kc hS' b1) (And.intro (kc hS' b2) (And.intro (kc hS' b3) (And.intro (kc hS' b4) (kc hS' b5))))))) ?_;refine qPDs 12 23 19 blr ?_;refine qTDs 13 24 18 blr (fun w' hS'=>(And.intro (kc hS' b0) (And.intro (kc hS' b1) (And.intro (kc hS' b2) (And.intro (kc hS' b3) (And.intro (kc hS' b4) (kc hS' b5))))))) ?_;refine qPDs 15 26 17 blr ?_;refine qTDs 16 27 16 blr (fun w' hS'=>(And.intro (kc hS' b0) (And.intro (kc hS' b1) (And.intro (kc hS' b2) (And.intro (kc hS' b3) (And.intro (kc hS' b4) (kc hS' b5))))))) ?_;refine qPDs 18 29 15 blr ?_;refine qTDs 19 30 14 blr (fun w' hS'=>(And.intro (kc hS' b0) (And.intro (kc hS' b1) (And.intro (kc hS' b2) (And.intro (kc hS' b3) (And.intro (kc hS' b4) (kc hS' b5))))))) ?_;refine oO 0 13 ?_;intro K0 hK0;go_wp2_with fail;refine(enc_TextVe _ _).mono ?_;rintro e wz0 ⟨rfl,hb⟩;have HB0:=Hq hb;clear hb;go_wp2;refine hK0 _ _ (by exact HB0.out) ?_;clear hK0;intro hS_5_0;refine oO 4 12 ?_;intro K4 hK4;go_wp2_with fail;refine(ep_number N _ (by omega)).mono ?_;rintro e wz4 ⟨rfl,hb⟩;have HB4:=Hq hb;clear hb;go_wp2;refine hK4 _ _ (by exact Below.trans hS_5_0 (Below.mono HB4.out (Below.size hS_5_0))) ?_;clear hK4;intro hS_5_4;refine oO 8 11 ?_;intro K8 hK8;go_wp2_with fail;refine(ep_number T _ (by omega)).mono ?_;rintro e wz8 ⟨rfl,hb⟩;have HB8:=Hq hb;clear hb;go_wp2;refine hK8 _ _ (by exact Below.trans hS_5_4 (Below.mono HB8.out (Below.size hS_5_4))) ?_;clear hK8;intro hS_5_8;refine oO 11 10 ?_;intro K11 hK11;go_wp2_with fail;refine(ep_list d.ad A n c _ (HSAd.out.kept hS_5_8 nlr) (by omega)).mono ?_;rintro e wz11 ⟨v11,rfl,⟨A11,l11,c11,rfl,hs11⟩,hb⟩;have HB11:=Hq hb;have HI11:=Hq hs11;clear hb hs11;go_wp2;refine hK11 _ _ (by exact Below.trans hS_5_8 (Below.mono HB11.out (Below.size hS_5_8))) ?_;clear hK11;intro hS_5_11;refine oO 14 9 ?_;intro K14 hK14;go_wp2_with fail;refine(ep_list d.rm A' n' c' _ (HSRd.out.kept hS_5_11 nlr) (by omega)).mono ?_;rintro e wz14 ⟨v14,rfl,⟨A14,l14,c14,rfl,hs14⟩,hb⟩;have HB14:=Hq hb;have HI14:=Hq hs14;clear hb hs14;go_wp2;refine hK14 _ _ (by exact Below.trans hS_5_11 (Below.mono HB14.out (Below.size hS_5_11))) ?_;clear hK14;intro hS_5_14;refine oO 17 8 ?_;intro K17 hK17;go_wp2_with fail;refine(enc_NatVe _ _).mono ?_;rintro e wz17 ⟨rfl,hb⟩;have HB17:=Hq hb;clear hb;go_wp2;refine hK17 _ _ (by exact Below.trans hS_5_14 (Below.mono HB17.out (Below.size hS_5_14))) ?_;clear hK17;intro hS_5_17;refine oO 20 7 ?_;intro K20 hK20;go_wp2_with fail;refine(enc_NatVe _ _).mono ?_;rintro e wz20 ⟨rfl,hb⟩;have HB20:=Hq hb;clear hb;go_wp2;refine hK20 _ _ (by exact Below.trans hS_5_17 (Below.mono HB20.out (Below.size hS_5_17))) ?_;clear hK20;intro hS_5_20;refine oO 21 6 ?_;intro K21 hK21;go_wp2;refine name_world ?_;intro w23 hw23;have hb:=below_allocE hw23;have HR23:=Hq (row7 (bxc_alloc hw23) ((((HI11.out.below HB14.out nlr).below HB17.out nlr).below HB20.out nlr).below hb nlr) (((HI14.out.below HB17.out nlr).below HB20.out nlr).below hb nlr));have HB21:=Hq hb;clear hb hw23;refine hK21 _ _ (by exact Below.trans hS_5_20 (Below.mono HB21.out (Below.size hS_5_20))) ?_;clear hK21;intro hS_5_21;refine oO 22 5 ?_;intro K22 hK22;go_wp2_with fail;refine(enc_List _ _ 7 7 _ _ HNO.out HR23.out).mono ?_;rintro e w24 ⟨v24,rfl,hi24,hb⟩;have HI24:=Hq hi24;have HB22:=Hq hb;clear hb hi24;go_wp2;refine hK22 _ _ (by exact Below.trans hS_5_21 (Below.mono HB22.out (Below.size hS_5_21))) ?_;clear hK22;intro hS_5_22;refine oT 23 4 ?_;intro K23 hK23;go_wp2_with fail;refine(enc_Encode _ v24 _ _ HWE.out HI24.out).mono ?_;rintro e w25 ⟨rfl,hb⟩;rw[HIE.out];have hbl:=Below.trans hS_5_22 (Below.mono hb (Below.size hS_5_22));have HB25:=Hq (HB1.out.trans ((((blr).drew).trans hbl).mono HB1.out.size));obtain⟨r1,r2,hr⟩:∃ r1 r2,encS d.it=(r1,r2):=⟨_,_,rfl⟩;rw[hr];have HMR:=Hq hr;clear hb hbl hr;go_wp2;refine hK23 _ _ ?_;clear hK23;intro hD;refine wpAnyK_pureTD (i:=24) (d:=some 35) (v:=?v5_24b1) (fuel:=3) rfl (by kernel_rfl) (by kernel_rfl) (by kernel_rfl) (fun _ _ _ h=>h) hD (.inl ⟨by kernel_rfl,?y5_24b1⟩) ?n5_24b1
   case y5_24b1=>intro w' _;go_simp;with_reducible rfl
   simp only[Act.put,sqA,sqB,sqC];intro hD;refine wpAnyK_pureTD (i:=25) (d:=some 36) (v:=?v5_25b1) (fuel:=2) rfl (by kernel_rfl) (by kernel_rfl) (by kernel_rfl) (fun _ _ _ h=>h) hD (.inl ⟨by kernel_rfl,?y5_25b1⟩) ?n5_25b1
   case y5_25b1=>intro w' _;go_simp;with_reducible rfl
   simp only[Act.put,sqA,sqB,sqC];refine oT 26 1 ?_;intro K26 hK26;go_wp2;refine hK26 _ _ ?_;clear hK26;refine oT 27 0 ?_;intro K27 hK27;go_wp2;refine hK27 _ _ ?_;clear hK27;refine wDn ?_;go_wp2;go_ret2;exact⟨by show Ending.returned (.tuple #[.string r1,.int .i64 r2])=_;rw[HM.out,HMR.out],HB25.out⟩
 · have HM:=Hq (show d.msg=(⟨#[]⟩,F)from by unfold Dl.msg;rw[if_neg (by rw[hF];exact h0),hF]);have hd:(F != 0)=true:=by simpa using h0
   clear hF;go_wp2;go_ret2;exact⟨by show Ending.returned (.tuple #[.string ⟨#[]⟩,.int .i64 F])=_;rw[HM.out],HB1.out⟩
end Go.Proofs.YtmahgbhpdfbbjaaGreatDoor
/-
 DERIVED: THE SHELF's CONTRACTS AT THIS DUMP, IN PLAIN WORDS (tools/lay-plain.mjs out of 'TryShel2.lean', which tools/lay-shelf.mjs wrote): THE SAME DECLARATIONS UNDER THE SAME NAMES: 'import', 'namespace', 'open', 'def', 'theorem' AND NOTHING ELSE: no command of the shelf's: FOR A HAND-IN. Each laying: the table of numbers ('.._ren') and one theorem, a field a fact of the dump's own or the kernel's comparison; each contract: ONE APPLICATION.
-/
namespace Go.Proofs
open Go.Shelf
def Tryz.sortN_ren:Go.Shelf.Ren:=⟨fun | 6=>120 | 15=>141 | 14=>140 | 28=>151 | 29=>160 | 20=>152 | 21=>153 | 22=>154 | 23=>155 | 24=>156 | 25=>157 | 26=>158 | 27=>159 | 46=>163 | 47=>164 | 48=>165 | 49=>166 | 50=>167 | 57=>169 | n=>n,fun | 22=>25 | 24=>22 | 25=>96 | 3=>3 | 39=>118 | 0=>0 | 53=>192 | 55=>39 | 4=>4 | 46=>215 | 45=>214 | 50=>219 | 5=>5 | 9=>9 | 66=>224 | 70=>228 | 76=>232 | 77=>233 | n=>n,fun | n=>n⟩
theorem Tryz.sortN:Go.Proofs.SlLaysF.n6 Tryz.prog Tryz.sortN_ren:={
 mixed:=by kernel_rfl
 f6:=⟨Tryz.f120.name,by decide,Tryz.func120.trans (congrArg some (by kernel_rfl))⟩
 f14:=⟨Tryz.f140.name,by decide,Tryz.func140.trans (congrArg some (by kernel_rfl))⟩
 f15:=Tryz.func141.trans (congrArg some (by kernel_rfl))
 f20:=⟨Tryz.f152.name,by decide,Tryz.func152.trans (congrArg some (by kernel_rfl))⟩
 f21:=⟨Tryz.f153.name,by decide,Tryz.func153.trans (congrArg some (by kernel_rfl))⟩
 f22:=⟨Tryz.f154.name,by decide,Tryz.func154.trans (congrArg some (by kernel_rfl))⟩
 f23:=⟨Tryz.f155.name,by decide,Tryz.func155.trans (congrArg some (by kernel_rfl))⟩
 f24:=⟨Tryz.f156.name,by decide,Tryz.func156.trans (congrArg some (by kernel_rfl))⟩
 f25:=⟨Tryz.f157.name,by decide,Tryz.func157.trans (congrArg some (by kernel_rfl))⟩
 f26:=⟨Tryz.f158.name,by decide,Tryz.func158.trans (congrArg some (by kernel_rfl))⟩
 f27:=⟨Tryz.f159.name,by decide,Tryz.func159.trans (congrArg some (by kernel_rfl))⟩
 f28:=Tryz.func151.trans (congrArg some (by kernel_rfl))
 f29:=Tryz.func160.trans (congrArg some (by kernel_rfl))
 f46:=⟨Tryz.f163.name,by decide,Tryz.func163.trans (congrArg some (by kernel_rfl))⟩
 f47:=Tryz.func164.trans (congrArg some (by kernel_rfl))
 f48:=Tryz.func165.trans (congrArg some (by kernel_rfl))
 f49:=⟨Tryz.f166.name,by decide,Tryz.func166.trans (congrArg some (by kernel_rfl))⟩
 f50:=⟨Tryz.f167.name,by decide,Tryz.func167.trans (congrArg some (by kernel_rfl))⟩
 f57:=⟨Tryz.f169.name,by decide,Tryz.func169.trans (congrArg some (by kernel_rfl))⟩
 t0:=Tryz.underlying0
 a0:=Tryz.isAgg0
 z0:=Tryz.sizeOf0
 v0:=Tryz.zeroValue0
 t3:=Tryz.underlying3
 a3:=Tryz.isAgg3
 z3:=Tryz.sizeOf3
 v3:=Tryz.zeroValue3
 t4:=Tryz.underlying4
 a4:=Tryz.isAgg4
 z4:=Tryz.sizeOf4
 v4:=Tryz.zeroValue4
 t5:=Tryz.underlying5
 a5:=Tryz.isAgg5
 z5:=Tryz.sizeOf5
 v5:=Tryz.zeroValue5
 t9:=Tryz.underlying9
 a9:=Tryz.isAgg9
 z9:=Tryz.sizeOf9
 v9:=Tryz.zeroValue9
 t22:=Tryz.underlying25
 a22:=Tryz.isAgg25
 z22:=Tryz.sizeOf25
 v22:=Tryz.zeroValue25
 a24:=Tryz.isAgg22
 z24:=Tryz.sizeOf22
 t25:=Tryz.underlying96
 a25:=Tryz.isAgg96
 z25:=Tryz.sizeOf96
 v25:=Tryz.zeroValue96
 t39:=Tryz.underlying118
 a39:=Tryz.isAgg118
 z39:=Tryz.sizeOf118
 v39:=Tryz.zeroValue118
 t45:=Tryz.underlying214
 a45:=Tryz.isAgg214
 z45:=Tryz.sizeOf214
 v45:=Tryz.zeroValue214
 t46:=Tryz.underlying215
 a46:=Tryz.isAgg215
 z46:=Tryz.sizeOf215
 v46:=Tryz.zeroValue215
 t50:=Tryz.underlying219
 a50:=Tryz.isAgg219
 z50:=Tryz.sizeOf219
 v50:=Tryz.zeroValue219
 t53:=Tryz.underlying192
 a53:=Tryz.isAgg192
 z53:=Tryz.sizeOf192
 v53:=Tryz.zeroValue192
 t55:=Tryz.underlying39
 a55:=Tryz.isAgg39
 z55:=Tryz.sizeOf39
 v55:=Tryz.zeroValue39
 t66:=Tryz.underlying224
 a66:=Tryz.isAgg224
 z66:=Tryz.sizeOf224
 v66:=Tryz.zeroValue224
 t70:=Tryz.underlying228
 a70:=Tryz.isAgg228
 z70:=Tryz.sizeOf228
 v70:=Tryz.zeroValue228
 t76:=Tryz.underlying232
 a76:=Tryz.isAgg232
 z76:=Tryz.sizeOf232
 v76:=Tryz.zeroValue232
 t77:=Tryz.underlying233
 a77:=Tryz.isAgg233
 z77:=Tryz.sizeOf233
 v77:=Tryz.zeroValue233 }
end Go.Proofs
namespace Go.Proofs.YtmahgbhpdfbbjaaGreatDoor
set_option maxRecDepth 100000
open Go.RowKit
open Go.Sort Go.Shelf
abbrev VN:={s:ByteArray // nvalid s=true}
instance : Inhabited VN:=⟨⟨⟨#[]⟩,by decide⟩⟩
def VN.enc(x:VN):Value:=.string x.1
def VN.cf(x y:VN):Int:=cmpI (num x.1) (num y.1)
theorem VN.lt_iff(x y:VN):ltOf VN.cf x y=decide (num x.1<num y.1):=decide_eq_decide.2 cmpI_neg
theorem VN.swo:SWO (ltOf VN.cf) where
 irrefl x:=by rw[VN.lt_iff];exact decide_eq_false (Nat.lt_irrefl _)
 trans x y z h1 h2:=by rw[VN.lt_iff]at *;simp only[decide_eq_true_eq]at *;omega
 ntrans x y z h1 h2:=by rw[VN.lt_iff]at *;simp only[decide_eq_false_iff_not]at *;omega
theorem VN.reads(blk off size:Nat)(w:World):CmpReads Tryz.prog 40 #[] VN.enc VN.cf blk off size w:=by
 intro m os dk _ x y;have h:=nat_Cmp x.1 y.1 (by have:=size_valid x.2;omega) (by have:=size_valid y.2;omega) (sortWorld VN.enc w blk off m dk os);rw[ncmp_num x.2 y.2]at h;exact h.mono fun e w' ⟨he,hw⟩=>⟨he,0,hw.symm⟩
theorem ins_none(w:World):Calls Tryz.prog 152 #[.slice none 0 0,.int .i64 0,.int .i64 0,.func (.func 40) #[] #[]] w (fun e w'=>e=.returned (.tuple #[])∧w'=w):=by
 go_enter Tryz.func152,Tryz.ntmps152;go_wp2;refine wp_loop_rounds 1 ?_;rw[rounds_succ];go_wp2;go_end0;exact⟨rfl,rfl⟩
theorem pdq_none(w:World)(l:Int):Calls Tryz.prog 140 #[.slice none 0 0,.int .i64 0,.int .i64 0,.int .i64 l,.func (.func 40) #[] #[]] w (fun e w'=>e=.returned (.tuple #[])∧w'=w):=by
 go_enter Tryz.func140,Tryz.ntmps140;go_wp2_with fail;refine wp_loop_rounds 1 ?_;rw[rounds_succ];go_wp2_with fail;refine(ins_none _).mono ?_;rintro e w1 ⟨rfl,rfl⟩;go_wp2;exact bodyPost_ret (v:=.tuple #[]) (by simp[results,Tryz.results140,go_sem]) rfl ⟨rfl,rfl⟩
theorem sort_none(w:World):Calls Tryz.prog 120 #[.slice none 0 0,.func (.func 40) #[] #[]] w (fun e w'=>e=.returned (.tuple #[])∧w'=w):=by
 go_enter Tryz.func120,Tryz.ntmps120;go_wp2_with fail;refine(Tryz.bits_Len 0 _ (by decide) (by decide)).mono ?_;rintro e w1 ⟨rfl,rfl⟩;go_wp2_with fail;refine(pdq_none _ _).mono ?_;rintro e w1 ⟨rfl,rfl⟩;go_wp2;go_end0;exact⟨rfl,rfl⟩
def SortedK(K l:List ByteArray):Prop:=(∀ s∈l,nvalid s=true)∧(∀(i j:Nat) a b,i<j→l[i]? =some a→l[j]? =some b→num a<num b)∧∀ s,s∈l↔s∈K
theorem below_sort{B:Nat}(w:World)(blk n:Nat)(d:Array VN)(os:Array Obj)(hB:B≤blk)(hblk:blk<w.heap.size):Go.RowKit.Below B w (sortWorld VN.enc w blk 0 n d os):=by
 refine⟨rfl,rfl,rfl,?_,fun k hk=>?_⟩
 · unfold sortWorld putRow mapBlock Sort.ahead;rw[Go.Sort.size_grow];simp
 · unfold sortWorld;rw[Go.Sort.heap_grow_old _ _ (by unfold putRow mapBlock Sort.ahead;simp;omega)];unfold putRow mapBlock Sort.ahead;simp only[Array.getElem?_modify];rw[if_neg (by omega)]
theorem sort_row(d:Array VN)(blk cap:Nat)(w:World)(hH:Holds VN.enc w blk 0 d)(hblk:blk<w.heap.size)(hsz:d.size<4611686018427387904)(hcap:d.size≤cap)(hc2:cap≤9223372036854775807) :
 Calls Tryz.prog 120 #[.slice (some ⟨blk,0,none⟩) d.size cap,.func (.func 40) #[] #[]] w (fun e w'=>e=.returned (.tuple #[])∧∃ d':Array VN,PermIn 0 d.size d d'∧SortedIn (ltOf VN.cf) 0 d.size d'∧SlN w' (some ⟨blk,0,none⟩) d.size cap (d'.toList.map (fun x=>x.1))∧∀ B,B≤blk→Go.RowKit.Below B w w'):=by
 have eg:∀ args w,(callFunc 40 args).run Tryz.prog w=.ok (.enter 40 args) w:=enters_of Tryz.func40 (by kernel_rfl) rfl;have h:=Any.slices_SortFunc Tryz.sortN VN.enc (fun _=>rfl) VN.cf VN.swo 40 #[] blk 0 cap d w eg (VN.reads blk 0 d.size w).lays hH hblk hsz;refine(show Calls _ 120 _ _ _ from h).mono ?_;rintro e w' ⟨rfl,d',n,os,hp,hs,rfl⟩;have hsw:SW VN.enc w blk 0 d' (sortWorld VN.enc w blk 0 n d' os):=⟨n,os,rfl⟩;have hh:=hsw.holds hblk hH hp.1;refine⟨rfl,d',hp,hs,⟨by simp[hp.1],hcap,hc2,blk,0,fun _=>rfl,fun k s hk=>?_⟩,fun B hB=>?_⟩
 · rw[List.getElem?_map,Option.map_eq_some_iff]at hk;obtain⟨x,hx,rfl⟩:=hk;rw[Array.getElem?_toList]at hx;obtain⟨hlt,hx⟩:=Array.getElem?_eq_some_iff.1 hx;have:=(hh k hlt).1;rw[getElem!_pos d' k hlt,hx]at this;exact this
 · exact below_sort w blk n d' os hB hblk
set_option maxRecDepth 100000
set_option maxHeartbeats 1000000
open Go.RowKit
open Go.Maps Go.WideMaps Go.Sort Go.Shelf
theorem zeroI(w:World):(zeroValue 3).run Tryz.prog w=.ok (.int .i64 0) w:=by kernel_rfl
theorem lawNz:Keyed Tryz.prog 22:=string_keyed Tryz.underlying22
theorem keyNz{s:ByteArray}(h:s.size≤maxLen):keyOf Tryz.prog 22 (.string s)=some (.string s.data.toList):=keyOf_string_mk Tryz.underlying22 h
def MapZ(w:World)(b n:Nat)(K:List ByteArray)(g:ByteArray→Int):Prop:=∃ D:DataW Unit,w.ownsMap Tryz.prog 22 (plainElem (H:=Unit) Tryz.prog 3) b n D ∧
 ∀ s:ByteArray,(Maps.has D (.string s.data.toList)=true↔s∈K)∧D.atKey (.string s.data.toList) (.lit (.int .i64 0))=.lit (.int .i64 (g s))
theorem MapZ.made(w:World):MapZ (w.alloc (.map #[] 0)) w.heap.size 0 [] (fun _=>0):=⟨_,World.ownsMap_made _ _ _ _,fun _=>⟨⟨(fun h=>by cases h),(fun h=>by cases h)⟩,rfl⟩⟩
theorem MapZ.lt{w:World}{b n:Nat}{K:List ByteArray}{g:ByteArray→Int}(h:MapZ w b n K g):b<w.heap.size:=let ⟨_,h1,_⟩:=h;h1.lt
theorem MapZ.of_block{w w':World}{b n:Nat}{K:List ByteArray}{g:ByteArray→Int}(h:MapZ w b n K g)(e:w'.heap[b]? =w.heap[b]?):MapZ w' b n K g:=by
 obtain⟨D,⟨es,clock,h1,h2⟩,h3⟩:=h;exact⟨D,⟨es,clock,e.trans h1,h2⟩,h3⟩
theorem MapZ.kept{B:Nat}{w w':World}{b n:Nat}{K:List ByteArray}{g:ByteArray→Int}(h:MapZ w b n K g)(hb:Below B w w')(hB:w.heap.size≤B):MapZ w' b n K g:=
 h.of_block (hb.block b (Nat.lt_of_lt_of_le h.lt hB))
theorem MapZ.congr{w:World}{b n n':Nat}{K K':List ByteArray}{g g':ByteArray→Int}(h:MapZ w b n K g)(hn:n=n')(hK:K=K')(hg:g=g'):MapZ w b n' K' g':=by
 subst hn hK hg;exact h
theorem mapZ_put{w':World}{b n:Nat}{K:List ByteArray}{g:ByteArray→Int}{h:ByteArray}{k:Int}{D:DataW Unit}(hf:∀ s:ByteArray,(Maps.has D (.string s.data.toList)=true↔s∈K)∧D.atKey (.string s.data.toList) (.lit (.int .i64 0))=.lit (.int .i64 (g s)))(hm:IsMap D)
 (hown:w'.ownsMap Tryz.prog 22 (plainElem (H:=Unit) Tryz.prog 3) b (n+1) (D.put (.string h.data.toList) (.lit (.int .i64 k)))):MapZ w' b (n+1) (K++[h]) (fun u=>if u=h then k else g u):=by
 have hk:WideAt.IsKeyLit (.string h.data.toList):=trivial;refine⟨_,hown,fun s=>?_⟩;dsimp only;by_cases e:s=h
 · subst e;rw[has_put_same hm hk,if_pos rfl];exact⟨⟨fun _=>by simp,fun _=>rfl⟩,atKey_put_same hm hk _ _⟩
 · have hne:(Lit.string s.data.toList)≠(Lit.string h.data.toList):=fun hh=>e (by simp only[Lit.string.injEq]at hh;rw[←bstr_of h,←bstr_of s,hh]);rw[has_put_other hne,if_neg e,atKey_put_other hne];refine⟨?_,(hf s).2⟩;rw[(hf s).1];simp[e]
theorem mem_strKeys{w:World}{k:TypeId}{R:Value→Option (DataW Unit×List MemPlace)}{b n:Nat}{D:DataW Unit}(hown:w.ownsMap Tryz.prog k R b n D)(hk:Tryz.prog.underlying k=some .string)(x:List UInt8):x∈strKeys D↔Maps.has D (.string x)=true:=by
 obtain⟨es,rfl,hko⟩:=hown.keysOf;have hs:∀ p∈es,∃ x,p.1=.string x:=fun p hp=>by obtain⟨v,hv⟩:=hko p hp;obtain⟨x,_,hx,_⟩:=Go.Maps.keyOf_str hk hv;exact⟨x,hx⟩
 rw[has_eq,List.any_eq_true];show x∈es.map (fun p=>strOf p.1)↔_;rw[List.mem_map];constructor
 · rintro⟨p,hp',rfl⟩;obtain⟨a,ha⟩:=hs p hp';exact⟨p,hp',by rw[ha];simp[Lit.sameKey,strOf]⟩
 · rintro⟨p,hp',h⟩;obtain⟨a,ha⟩:=hs p hp';rw[ha]at h;exact⟨p,hp',by rw[ha];simpa[Lit.sameKey,strOf]using h⟩
theorem nodup_strKeys{w:World}{k:TypeId}{R:Value→Option (DataW Unit×List MemPlace)}{b n:Nat}{D:DataW Unit}(hown:w.ownsMap Tryz.prog k R b n D)(K:Keyed Tryz.prog k)(hk:Tryz.prog.underlying k=some .string):(strKeys D).Nodup:=by
 obtain⟨es,hD,hpw,_⟩:=hown.entries K;obtain⟨es',hD',hko⟩:=hown.keysOf;obtain rfl:es=es':=by rw[hD]at hD';simpa using hD'
 subst hD;have hs:∀ p∈es,∃ x,p.1=.string x:=fun p hp=>by obtain⟨v,hv⟩:=hko p hp;obtain⟨x,_,hx,_⟩:=Go.Maps.keyOf_str hk hv;exact⟨x,hx⟩
 show (es.map (fun p=>strOf p.1)).Nodup;refine List.pairwise_map.2 (hpw.imp_of_mem fun {p q} hp' hq' hne e=>hne ?_);obtain⟨a,ha⟩:=hs p hp';obtain⟨b,hb⟩:=hs q hq';rw[ha,hb]at e⊢;exact congrArg _ e
theorem sorted_asc{d d':Array VN}(hp:PermIn 0 d.size d d')(hs:SortedIn (ltOf VN.cf) 0 d.size d')(hnd:d.toList.Nodup){K:List ByteArray}(hK:∀ s,s∈d.toList.map (fun x=>x.1)↔s∈K):SortedK K (d'.toList.map (fun x=>x.1)):=by
 have hperm:d'.toList.Perm d.toList:=(by have:=hp.2.2;rw[show d'.extract 0 d.size=d' from by rw[←hp.1];simp,show d.extract 0 d.size=d from by simp]at this;exact this);have hnd':d'.toList.Nodup:=hperm.nodup_iff.2 hnd;refine⟨fun s hs'=>?_,fun i j a b hij ha hb=>?_,fun s=>?_⟩
 · obtain⟨x,_,rfl⟩:=List.mem_map.1 hs';exact x.2
 · rw[List.getElem?_map,Option.map_eq_some_iff]at ha hb;obtain⟨x,hx,rfl⟩:=ha;obtain⟨y,hy,rfl⟩:=hb;rw[Array.getElem?_toList]at hx hy;obtain⟨hi,hx'⟩:=Array.getElem?_eq_some_iff.1 hx;obtain⟨hj,hy'⟩:=Array.getElem?_eq_some_iff.1 hy;have h:=hs i j (Nat.zero_le _) hij (by rw[←hp.1];exact hj);rw[VN.lt_iff,decide_eq_false_iff_not,getElem!_pos d' i hi,getElem!_pos d' j hj,hx',hy']at h;rcases Nat.lt_or_ge (num x.1) (num y.1)with h' | h'
   · exact h'
   · exfalso;have he:x=y:=Subtype.ext (num_inj x.2 y.2 (by omega));have h1:d'.toList[i]? =some x:=by rw[Array.getElem?_toList];exact hx
     have h2:d'.toList[j]? =some x:=by rw[Array.getElem?_toList,he];exact hy
     have:=(List.getElem?_inj (i:=i) (j:=j) (by simpa using hi) hnd').1 (h1.trans h2.symm);omega
 · rw[←hK s];exact(hperm.map _).mem_iff
theorem ep_sorted(b n Bm:Nat)(K:List ByteArray)(g:ByteArray→Int)(w:World)(hm:MapZ w b n K g)(hK:∀ s∈K,nvalid s=true)(hn:n≤10000000)(hB:w.cell? ⟨Bm,0,none⟩=some (.map (some b)))(hBl:Bm<w.heap.size) :
 Calls Tryz.prog 85 #[.func (.func 121) #[] #[.pointer (some ⟨Bm,0,none⟩)],.func (.func 40) #[] #[]] w (fun e w'=>∃ A c l,e=.returned (.slice A l.length c)∧SlN w' A l.length c l∧SortedK K l∧l.length≤n∧(0<l.length→∀ ad,A=some ad→w.heap.size≤ad.block)∧Go.RowKit.Below w.heap.size w w'):=by
 obtain⟨D,hown,hD⟩:=hm;have hsz:=hown.size_le;have hseq:SeqGives Fence.wide 2 Tryz.prog 121 #[.pointer (some ⟨Bm,0,none⟩)] encStr (fun ss=>ss.Perm (strKeys D)) (Maps.size D) w:=
  AnyZ.keys_gives (ρ:=Tryz.keysN_ren) { Tryz.keysN with } Fence.wide _ trivial rfl (by omega) Bm b n D _ hBl hB hown
 have hcol:=AnyZ.collect_in Tryz.collectN Fence.wide 4 trivial trivial rfl (by omega) 121 #[.pointer (some ⟨Bm,0,none⟩)] trivial (enters_of Tryz.func121 (by kernel_rfl) rfl) _ _ (by unfold maxLen;omega) (by omega) _ hseq;have HC:=Hq (callsIn_wide.1 hcol);clear hcol hseq;have HMEM:=Hq (fun x=>mem_strKeys hown Tryz.underlying22 x);have HND:=Hq (nodup_strKeys hown lawNz Tryz.underlying22);have HDD:=Hq hD;have HK:=Hq hK;clear hown hD hK hB;go_enter Tryz.func85,Tryz.ntmps85;go_wp2_with fail;refine HC.out.mono ?_;rintro e w1 ⟨v,ss,rfl,hp,hown1,hnil,hb⟩;have HP:=Hq hp;have HO:=Hq hown1;have HB:=Hq hb;have HLE:=Hq (show ss.length≤n from by rw[hp.length_eq];have : (strKeys D).length=Maps.size D:=(by cases D<;>simp[strKeys,Maps.size]);omega);have HKM:=Hq (show ∀ s:ByteArray,s.data.toList∈ss↔s∈K from fun s=>by rw[hp.mem_iff,HMEM.out,(HDD.out s).1])
 cases hss:ss with
 | nil =>
  have hv:=hnil.2 hss;have HE:=Hq hss;subst hv;clear hp hown1 hb hnil HC hss;go_wp2_with fail;refine(sort_none _).mono ?_;rintro e w2 ⟨rfl,rfl⟩;go_wp2;go_ret;exact⟨none,0,[],rfl,SlN.nil _ _ (by omega) _,⟨fun _ h=>by(cases h),fun _ _ _ _ _ h=>by(simp at h),fun s=>by rw[←HKM.out s,HE.out];simp⟩,Nat.zero_le _,(fun h0=>by simp at h0),HB.out⟩
 | cons x0 xs0 =>
  have hpos:0<ss.length:=by rw[hss];simp
  clear hss;have hval:∀ x∈ss,nvalid (bstr x)=true:=fun x hx=>HK.out _ ((HKM.out _).1 (by rw[bstr_data];exact hx));obtain⟨d,hd⟩:∃ d:Array VN,d=(ss.pmap (fun x h=>(⟨bstr x,h⟩:VN)) hval).toArray:=⟨_,rfl⟩;have hds:d.size=ss.length:=by rw[hd];simp
  have hdl:d.toList.map (fun x=>x.1)=ss.map bstr:=by rw[hd];simp[List.map_pmap]
  have hget:∀(j:Nat) (hj:j<d.size),VN.enc d[j]! =encStr (ss[j]'(by omega)):=fun j hj=>by
   rw[getElem!_pos d j hj];have h:=congrArg (fun l=>l[j]?) hdl;rw[List.getElem?_map,List.getElem?_map,Array.getElem?_toList,Array.getElem?_eq_getElem hj,List.getElem?_eq_getElem (by omega)]at h;simp only[Option.map_some,Option.some.injEq]at h;show Value.string _=_;rw[h];rfl
  obtain⟨blk,cap,rfl,hbg,hblt⟩:=hown1.form hpos;have hfrm:=hown1.2;have hH:Holds VN.enc w1 blk 0 d∧ss.length≤cap∧cap≤9223372036854775807:=by
   rcases hfrm with⟨h,_⟩ | ⟨g',cap',cur,hv,hgb,hh,hc,hmx,hs',ht⟩
   · cases h
   · cases hv;refine⟨fun j hj=>⟨?_,Lib.frozen_of_heap hh _⟩,hc,by unfold maxLen at hmx;exact hmx⟩;rw[Lib.cell_of_heap hh,hget j hj,Nat.zero_add];have h2:cur.toList[j]? =some (encStr (ss[j]'(by omega))):=by
      have h3:(cur.toList.take (ss.length * 1))[j]? =some (encStr (ss[j]'(by omega))):=by rw[ht];simp[List.getElem?_eq_getElem (show j<ss.length by omega)]
      rw[List.getElem?_take_of_lt (by omega)]at h3;exact h3
     rw[Array.getElem?_toList]at h2;exact h2
  obtain⟨hH,hcap,hcap2⟩:=hH;have hnd:d.toList.Nodup:=(by have h1:(ss.map bstr).Nodup:=(by refine List.pairwise_map.2 ((hp.nodup_iff.2 HND.out).imp fun {x y} hne e=>hne ?_);rw[←bstr_data x,←bstr_data y,e]);rw[←hdl]at h1;exact(List.pairwise_map.1 h1).imp fun {x y} hne e=>hne (by rw[e]));have hKd:∀ s,s∈d.toList.map (fun x=>x.1)↔s∈K:=fun s=>by
   rw[hdl,←HKM.out s,List.mem_map];constructor
   · rintro⟨x,hx,rfl⟩;rw[bstr_data];exact hx
   · intro h;exact⟨_,h,bstr_of s⟩
  have HS:=Hq (sort_row d blk cap w1 hH hblt (by have:=HLE.out;omega) (by omega) hcap2);rw[hds]at HS;have HBG:=Hq hbg;have HDS:=Hq hds;have HNDD:=Hq hnd;have HKD:=Hq hKd;clear hp hown1 hb hnil HC hval hd hdl hget hfrm hH hcap hcap2 hnd hKd hds;go_wp2_with fail;refine HS.out.mono ?_;rintro e w2 ⟨rfl,d',hp',hs',hsl,hbl⟩;rw[←HDS.out]at hp' hs';have hso:=sorted_asc hp' hs' HNDD.out HKD.out;have hlen:(d'.toList.map (fun x=>x.1)).length=ss.length:=by simp[hp'.1,HDS.out]
  have HB2:=Hq (HB.out.trans (hbl _ HBG.out));obtain⟨l,hl⟩:=nm (d'.toList.map (fun x=>x.1));rw[hl]at hsl hso hlen;have HSL:=Hq hsl;have HSO:=Hq hso;have HLN:=Hq hlen;clear hsl hso hlen hbl hp' hs' hl;go_wp2;go_ret;exact⟨some ⟨blk,0,none⟩,cap,l,by rw[HLN.out];rfl,by rw[HLN.out];exact HSL.out,HSO.out,by rw[HLN.out];exact HLE.out,(fun _ ad he=>by cases he;exact HBG.out),HB2.out⟩
end Go.Proofs.YtmahgbhpdfbbjaaGreatDoor

import Derived.Test.YtppbcopnfankcaaGreatQAuE
set_option linter.unusedVariables false
set_option linter.unusedSimpArgs false
namespace Go.Proofs.YtppbcopnfankcaaGreat
set_option maxRecDepth 100000
set_option maxHeartbeats 4000000
open Go.RowKit
open Go.Maps Go.WideMaps Go.Sort Go.Shelf
theorem zto{d d':Array VN}(hp:PermIn 0 d.size d d')(hs:SortedIn (ltOf VN.cf) 0 d.size d'):SrtL (d'.toList.map (fun x=>x.1))∧(d'.toList.map (fun x=>x.1)).Perm (d.toList.map (fun x=>x.1)):=by
 have hperm:d'.toList.Perm d.toList:=(by have:=hp.2.2;rw[show d'.extract 0 d.size=d' from by rw[←hp.1];simp,show d.extract 0 d.size=d from by simp]at this;exact this);refine⟨?_,hperm.map _⟩;unfold SrtL;rw[List.pairwise_map,List.pairwise_iff_getElem];intro i j hi hj hij;have hi':i<d'.size:=by simpa using hi
 have hj':j<d'.size:=by simpa using hj
 have h:=hs i j (Nat.zero_le _) hij (by rw[←hp.1];exact hj');rw[VN.lt_iff,decide_eq_false_iff_not,getElem!_pos d' i hi',getElem!_pos d' j hj']at h;simp only[Array.getElem_toList];omega
theorem zqu(L:List ByteArray)(B g c:Nat)(w:World)(h:OwnN w B g L.length c L)(hv:∀ x∈L,zc x=true)(hn:L.length≤1000000)(hB:B≤w.heap.size) :
 Calls Tryz.prog 81 #[.slice (some ⟨g,0,none⟩) L.length c,.func (.func 65) #[] #[]] w (fun e w'=>e=.returned (.tuple #[])∧∃ l,SrtL l∧l.Perm L∧SlN w' (some ⟨g,0,none⟩) L.length c l∧Below B w w'):=by
 obtain⟨p1,p2,p3,p4,p5,p6,p7,p8⟩:=h.parts;obtain⟨d,hd⟩:∃ d:Array VN,d=(L.pmap (fun x h=>(⟨x,h⟩:VN)) hv).toArray:=⟨_,rfl⟩;have hds:d.size=L.length:=by rw[hd];simp
 have hdl:d.toList.map (fun x=>x.1)=L:=by rw[hd];simp[List.map_pmap]
 have hH:Holds VN.enc w g 0 d:=fun j hj=>by
  refine⟨?_,p8 _⟩;have h:=congrArg (fun l=>l[j]?) hdl;rw[List.getElem?_map,Array.getElem?_toList,Array.getElem?_eq_getElem hj]at h;simp only[Option.map_some]at h;rw[getElem!_pos d j hj,Nat.zero_add];exact p7 j _ h.symm
 have hs:=ztp d g c w hH p5 (by omega) (by omega) p4;rw[hds]at hs;refine hs.mono ?_;rintro e w' ⟨rfl,d',hp,hs',hsl,hb⟩;rw[←hds]at hp hs';obtain⟨q1,q2⟩:=zto hp hs';rw[hdl]at q2;exact⟨rfl,_,q1,q2,hsl,hb B p2⟩
theorem zrx{b:List ByteArray}{k:Nat}{x:ByteArray}(he:b[k]? =some x)(s:ByteArray):(memB (b.take k) s||decide (x=s))=memB (b.take (k+1)) s:=by
 rw[List.take_add_one,he,Option.toList_some,zja];congr 1;exact decide_eq_decide.2 eq_comm
theorem zle(a b:List ByteArray)(A B:Option Addr)(n c n' c':Nat)(w:World)(h1:SlN w A n c a)(h2:SlN w B n' c' b)(hn:n≤100000)(hn':n'≤100000)(va:∀ x∈a,zc x=true)(zb:SzL b) :
 Calls Tryz.prog 48 #[.slice A n c,.slice B n' c'] w (zzk (minL a b) w):=by
 have H1:=Hq h1;have H2:=Hq h2;have HLA:=Hq h1.1;have HLB:=Hq h2.1;have hc1:=h1.2.1;have hc2:=h1.2.2.1;have hc3:=h2.2.1;have hc4:=h2.2.2.1;have VA:=Hq va;have ZB:=Hq zb;have HFIN:=Hq (fun l (hs:SrtL l) (hp:l.Perm (flt a b))=>zrv va hs hp);have HVF:=Hq (show ∀ x∈flt a b,zc x=true from fun x hx=>va x (List.mem_filter.1 hx).1);obtain⟨R,hR⟩:=nm (minL a b);rw[hR];rw[hR]at HFIN;have hmm:=@run_makeMap Tryz.prog;clear h1 h2 va zb hR;go_enter Tryz.func48,Tryz.ntmps48;go_wp2;go_loopw [16] (fun i wr=>∃ k:Nat,k≤n'∧i=.int .i64 k∧SetM wr w.heap.size k (memB (b.take k))∧Below w.heap.size w wr) (fun i _=>n' - (intOf i).toNat);case atStart=>exact⟨0,Nat.zero_le _,rfl,(SetM.made w).congr (fun s=>rfl),(blr).alloc nlr _⟩
 case round =>
  obtain⟨k,hk,rfl,hm,hbb⟩:=hrel;have HB:=Hq hbb;have HM:=Hq hm;clear hmm hm;by_cases hlt:k<n'
  · obtain⟨x,he⟩:∃ x,b[k]? =some x:=⟨_,List.getElem?_eq_getElem (by rw[HLB.out];exact hlt)⟩;obtain⟨bb,o,rfl⟩:=H2.out.head (by omega);have c0:=(H2.out.kept hbb nlr).get? k he;have HXS:=Hq (show x.size≤maxLen from by have:=ZB.out x (List.mem_of_getElem? he);unfold maxLen;omega);obtain⟨D,hown,hmem⟩:=HM.out;have HOWN:=Hq hown;have HMEM:=Hq hmem;have HE:=Hq he;clear hown hmem he hbb;go_wp2_with (at_mapUpdate;refine wpList_mapUpdate_own _ rfl _ _ _ 68 rfl 22 89 lawN Tryz.underlying68 unitElem w.heap.size k D (by kernel_rfl) HOWN.out (by unfold maxLen;omega) (.string x) (.agg #[]) (.string x.data.toList) (by kernel_rfl) (by kernel_rfl) (keyN HXS.out) (.agg []) [] unitElem_mk ?_);intro w3 hown3 hgrow3;have HM3:=Hq ((zl9 HMEM.out HOWN.out.isMap hown3).congr (zrx HE.out));have HB3:=Hq (HB.out.grown hgrow3 HB.out.size (fun k hk=>by simp only[Option.some.injEq]at hk;omega));clear hown3 hgrow3;go_wp2;go_roundw;case rel=>exact⟨k+1,by omega,by go_num,HM3.out,HB3.out⟩
    case measure=>simp[intOf];omega
  · obtain rfl:k=n':=by omega
    have HMM:=Hq (show SetM wr w.heap.size k (memB b)from by have h:=HM.out;rwa[List.take_of_length_le (by have:=HLB.out;omega)]at h);clear hbb hlt HM;go_wp2;obtain⟨wq,hwq⟩:∃ V,V=wr:=⟨_,rfl⟩;subst hwq;have HBQ:=Hq HB.out;clear HB hk;go_loopw [8,26] (fun v i wx=>∃(k:Nat) (L:List ByteArray),k≤n∧i=.int .i64 k∧wx.ownsRow wq.heap.size 22 1 v L.length (L.map Value.string)∧L=flt (a.take k) b∧L.length≤k∧Below wq.heap.size wq wx) (fun _ i _=>n - (intOf i).toNat);case atStart=>exact⟨0,[],Nat.zero_le _,rfl,World.ownsRow_nil _ _ _ _,by rw[List.take_zero];rfl,Nat.zero_le _,Below.refl _ _⟩
    case round =>
     obtain⟨j,L,hj,rfl,hown,hL,hlj,hbb⟩:=hrel;have HB:=Hq hbb;have HL:=Hq hL;have HOWN:=Hq hown;by_cases hlt:j<n
     · obtain⟨x,he⟩:∃ x,a[j]? =some x:=⟨_,List.getElem?_eq_getElem (by rw[HLA.out];exact hlt)⟩;obtain⟨bb,o,rfl⟩:=H1.out.head (by omega);have hbq:=HBQ.out.trans (hbb.mono HBQ.out.size);have c0:=(H1.out.kept hbq nlr).get? j he;have HXS:=Hq (show x.size≤maxLen from by have:=zy (VA.out x (List.mem_of_getElem? he));unfold maxLen;omega);have HFS:=Hq (zn5 (b:=b) he);obtain⟨D,hownm,hmem⟩:=HMM.out.kept hbb nlr;have HOM:=Hq hownm;have HMEM:=Hq hmem;have HWR:=Hq hbq.size;clear hown hL hbb he hbq hownm hmem
       cases hin:memB b x with
       | true =>
        have HFT:=Hq (show L=flt (a.take (j+1)) b from by rw[HFS.out,hin,if_pos rfl,List.append_nil];exact HL.out);have hhas:Maps.has D (.string x.data.toList)=true:=(HMEM.out x).trans hin;clear hin;go_wp2_with (at_lookup;refine wpList_lookup_own_unit _ rfl _ _ 68 rfl 22 89 lawN Tryz.underlying68 (zv7 _) w.heap.size _ D rfl HOM.out (.string x) (.string x.data.toList) rfl (keyN HXS.out) ?_;rw[hhas]);go_roundw;case rel=>exact⟨j+1,L,by omega,by go_num,HOWN.out.alloc _,HFT.out,by omega,HB.out.alloc HB.out.size _⟩
        case measure=>simp[intOf];omega
       | false =>
        have HFT:=Hq (show L++[x]=flt (a.take (j+1)) b from by rw[HFS.out,hin,if_neg (by decide),HL.out]);have hhas:Maps.has D (.string x.data.toList)=false:=(HMEM.out x).trans hin;clear hin;have hsn:SlN ((wr.alloc (.cells #[] 89)).alloc (.cells #[.string x] 22)) (some ⟨wr.heap.size+1,0,none⟩) 1 1 [x]:=(by have h:=SlN.new (wr.alloc (.cells #[] 89)) [x] 22 (by simp);rw[World.size_alloc]at h;exact h);have HSNW:=Hq hsn;have HBQB:=Hq (HB.out.alloc HB.out.size (.cells #[] 89));have HWS:=Hq (show wq.heap.size≤(wr.alloc (.cells #[] 89)).heap.size from by rw[World.size_alloc];have:=HB.out.size;omega);clear hsn;go_wp2_with (first | (at_lookup;refine wpList_lookup_own_unit _ rfl _ _ 68 rfl 22 89 lawN Tryz.underlying68 (zv7 _) w.heap.size _ D rfl HOM.out (.string x) (.string x.data.toList) rfl (keyN HXS.out) ?_;rw[hhas]) | (at_builtin;go_must (refine y8 wq _ rfl (.tmp 38) (.tmp 40) rfl wq.heap.size _ L.length L rfl ((HOWN.out.alloc _).alloc (.cells #[.string x] 22)) (some ⟨wr.heap.size+1,0,none⟩) 1 1 [x] rfl HSNW.out (by omega) (HBQB.out.alloc HWS.out _) (by have:=HB.out.size;simp;omega) ?_)));intro v2 w2 hown hb hsz;have HO2:=Hq (show w2.ownsRow wq.heap.size 22 1 v2 (L++[x]).length ((L++[x]).map Value.string)from by rw[List.length_append,List.map_append];exact hown);have HB2:=Hq hb;clear hown hb hsz;go_wp2;go_roundw;case rel=>exact⟨j+1,L++[x],by omega,by go_num,HO2.out,HFT.out,by simp;omega,HB2.out⟩
        case measure=>simp[intOf];omega
     · obtain rfl:j=n:=by omega
       have HLF:=Hq (show L=flt a b from by have h:=HL.out;rwa[List.take_of_length_le (by have:=HLA.out;omega)]at h);have HLV:=Hq (show ∀ y∈L,zc y=true from by rw[HLF.out];exact HVF.out);have HB3:=bt HBQ HB.out;rcases hown.2 with⟨rfl,h0⟩ | ⟨g,cap,cur,rfl,hgr⟩
       · have HNIL:=Hq (show L=[]from List.length_eq_zero_iff.1 h0);have HRR:=Hq (HFIN.out L (by rw[HNIL.out];exact List.Pairwise.nil) (by rw[HLF.out]));clear hown hL h0 hbb hlt;go_wp2_with fail;refine(zqt _).mono ?_;rintro e w2 ⟨rfl,rfl⟩;go_wp2;go_ret;exact⟨none,0,by rw[←HRR.out,HNIL.out];rfl,by rw[←HRR.out,HNIL.out];exact SlN.nil _ _ (by omega) _,HB3.out⟩
       · have HSO:=Hq (zqu L wq.heap.size g cap wr hown HLV.out (by omega) HB.out.size);clear hown hL hbb hlt hgr;go_wp2_with fail;refine HSO.out.mono ?_;rintro e w2 ⟨rfl,l,hs,hp,hsl,hb⟩;have HRR:=Hq (HFIN.out l hs (by rw[←HLF.out];exact hp));have HSL:=Hq hsl;have HPL:=Hq hp.length_eq;have HB4:=Hq (HBQ.out.trans ((HB.out.trans hb).mono HBQ.out.size));clear hs hp hsl hb;go_wp2;go_ret;exact⟨some ⟨g,0,none⟩,cap,by rw[←HRR.out,HPL.out];rfl,by rw[←HRR.out,HPL.out];exact HSL.out,HB4.out⟩
end Go.Proofs.YtppbcopnfankcaaGreat

import Derived.Test.YtdhnkmbjogmmkaaGreatDoorQMlM
set_option linter.unusedVariables false
set_option linter.unusedSimpArgs false
namespace Go.Proofs.YtdhnkmbjogmmkaaGreatDoor
set_option maxRecDepth 100000
set_option maxHeartbeats 4000000
open Go.RowKit
def RetPt(m:Nat)(fs:List Nat)(w:World)(e:Ending)(w':World):Prop:=∃(x:Nat) (b:Bool),e=.returned (.tuple #[.string (nS x),.bool b])∧b=fndN m [] fs∧(b=true→x=(partN m fs).2)∧Below w.heap.size w w'
theorem fnd_no{m:Nat}{fs:List Nat}{j f:Nat}(h:fs[j]? =some f)(hn:¬ f ∣ (partN m (fs.take j)).1):fndN m [] fs=false:=by
 rw[←Bool.not_eq_true,fnd_at];exact fun c=>hn (c j f h)
theorem fnd_yes{m:Nat}{fs:List Nat}(h:∀ j f,fs[j]? =some f→f ∣ (partN m (fs.take j)).1):fndN m [] fs=true:=fnd_at fs [] |>.2 h
theorem r07_part(n:Nat)(fs:List Nat)(l:List ByteArray)(A:Option Addr)(len cap:Nat)(h0:0<n)(hn:n<256 ^ 128)(hl:FacL l fs)(w:World)(hs:SlN w A len cap l):Calls Tryz.prog 63 #[.string (nS n),.slice A len cap] w (RetPt n fs w):=by
 have HS:=Hq hs;have HL:=Hq hl;have HLEN:=Hq (show fs.length=len from by rw[←hs.1,hl.eq,List.length_map]);have hcap:=hs.2.1;have hcap2:=hs.2.2.1;have HN:=Hq (And.intro h0 hn);have HPM:=Hq (fun j=>part_mul h0 (fs.take j) (fun x hx=>hl.two x (List.mem_of_mem_take hx)));clear hs hl h0 hn;go_enter Tryz.func63,Tryz.ntmps63;go_wp2_with fail;refine(r01_Of 1 (by decide) _).mono ?_;rintro e w1 ⟨rfl,hb1⟩;have HB1:=Hq hb1;clear hb1;go_wp2;go_loopw [0,6,7] (fun a b i wr=>∃ j:Nat,j≤len∧i=.int .i64 j∧a=.string (nS (partN n (fs.take j)).1)∧b=.string (nS (partN n (fs.take j)).2)∧(∀(k f:Nat),k<j→fs[k]? =some f→f ∣ (partN n (fs.take k)).1)∧Below w.heap.size w wr) (fun _ _ i _=>len - (intOf i).toNat);case atStart=>exact⟨0,Nat.zero_le _,rfl,by rw[List.take_zero];rfl,by rw[List.take_zero];rfl,fun k f h=>absurd h (Nat.not_lt_zero _),HB1.out⟩
 case round =>
  obtain⟨j,hj,rfl,rfl,rfl,hall,hbw⟩:=hrel;have HBW:=Hq hbw;have HALL:=Hq hall;clear hbw hall;by_cases hlt:j<len
  · obtain⟨f,he⟩:∃ f,fs[j]? =some f:=⟨_,List.getElem?_eq_getElem (by rw[HLEN.out];exact hlt)⟩;obtain⟨hlj,hf2,hfl⟩:=HL.out.at he;have HCELL:=Hq (fun W (hb:Below w.heap.size w W)=>(HS.out.kept hb nlr).cellP hlj);obtain⟨b,o,rfl,_⟩:=HCELL.out wr HBW.out;have HPT:=Hq (part_take (m:=n) he);have HPJ:=Hq (HPM.out j);have HE:=Hq he;have HFN:=Hq (fun h=>fnd_no (m:=n) he h);obtain⟨R,hR⟩:∃ u,(partN n (fs.take j)).1=u:=⟨_,rfl⟩;obtain⟨O,hO⟩:∃ u,(partN n (fs.take j)).2=u:=⟨_,rfl⟩;have HPE:=Hq (show ptS (partN n (fs.take j)) f=((cutN f R R).1,O * (cutN f R R).2)from by unfold ptS;rw[hR,hO]);have HRR:=Hq hR;rw[hR]at HFN;rw[hR,hO]at HPJ⊢;have HF:=Hq (And.intro hf2 hfl);clear hlj he hR hO hf2 hfl;go_wp2;go_loopw [0,6,8] (fun a b c wi=>∃(r q:Nat) (fb:Bool),a=.string (nS r)∧b=.string (nS q)∧c=.bool fb∧PtI n f R O r q∧(fb=true→f ∣ R)∧(fb=false→r=R)∧Below w.heap.size w wi) (fun a _ _ _=>svNum a);case atStart=>exact⟨R,O,false,rfl,rfl,rfl,⟨Cut.start HPJ.out.2,HPJ.out.1⟩,(fun h=>by cases h),fun _=>rfl,HBW.out⟩
    case round =>
     obtain⟨r,q,fb,rfl,rfl,rfl,hp,hfb,hfr,hbi⟩:=hrel;have HBI:=Hq hbi;have HP:=Hq hp;have HFB:=Hq hfb;have HFR:=Hq hfr;obtain⟨hr1,hq1,hr0⟩:=hp.lt HN.out;have HD:=Hq (r01_DivMod r f hr1 HF.out.2 (by have:=HF.out.1;omega));have hze:=nS_empty_dec (r%f);obtain⟨b',o',e',y0⟩:=HCELL.out wr HBI.out;cases e';obtain⟨Z,hZ⟩:∃ Z,nS (r%f)=Z:=⟨_,rfl⟩;rw[hZ]at HD hze;clear hbi hp hr1 hq1 hr0 hfb hfr hZ;by_cases hd:r%f=0
     · obtain⟨hp2,hlt2⟩:=HP.out.next HF.out.1 hd;have HM:=Hq (r01_Mul q f (HP.out.lt HN.out).2.1 HF.out.2);rw[show fitR (q * f)=.tuple #[.string (nS (q * f)),.int .i64 0]from by unfold fitR;rw[if_pos (hp2.lt HN.out).2.1]]at HM;have hz:Z.toList.isEmpty=true:=by rw[hze,decide_eq_true hd]
       have HP2:=Hq hp2;have HLT:=Hq hlt2;have HDR:=Hq (show f ∣ R from by
        cases fb with
        | true=>exact HFB.out rfl
        | false=>rw[←HFR.out rfl];exact Nat.dvd_of_mod_eq_zero hd)
       clear hd hp2 hlt2 hze;go_wp2_with fail;refine(HD.out _).mono ?_;rintro e w2 ⟨rfl,hb2⟩;have HB2:=Hq (HBI.out.trans (hb2.mono HBI.out.size));clear hb2 y0;obtain⟨b',o',e',y0⟩:=HCELL.out w2 HB2.out;cases e';go_wp2_with fail;refine(HM.out _).mono ?_;rintro e w3 ⟨rfl,hb3⟩;have HB3:=Hq (HB2.out.trans (hb3.mono HB2.out.size));clear hb3 y0;go_wp2;go_roundw;case rel=>exact⟨r / f,q * f,true,rfl,rfl,rfl,HP2.out,fun _=>HDR.out,(fun h=>by cases h),HB3.out⟩
       case measure=>rw[svNum_nS,svNum_nS];exact HLT.out
     · have HST:=Hq (HP.out.cut.stop hd);have hz:Z.toList.isEmpty=false:=by rw[hze,decide_eq_false hd]
       clear hze
       cases fb with
       | true =>
        have HA2:=Hq (show ∀(k g:Nat),k<j+1→fs[k]? =some g→g ∣ (partN n (fs.take k)).1 from fun k g hk hg=>by
         rcases Nat.lt_or_ge k j with h | h
         · exact HALL.out k g h hg
         · obtain rfl:k=j:=by omega
           rw[HE.out]at hg;cases hg;rw[HRR.out]
           exact HFB.out rfl)
        clear hd;go_wp2_with fail;refine(HD.out _).mono ?_;rintro e w2 ⟨rfl,hb2⟩;have HB2:=Hq (HBI.out.trans (hb2.mono HBI.out.size));clear hb2 y0;go_wp2;go_roundw;case rel=>exact⟨j+1,by omega,by go_num,by rw[HPT.out,HPE.out,HST.out.1],by rw[HPT.out,HPE.out,HST.out.2],HA2.out,HB2.out⟩
        case measure=>simp[intOf];omega
       | false =>
        have HNO:=Hq (HFN.out (fun h=>hd (by rw[HFR.out rfl];exact Nat.mod_eq_zero_of_dvd h)));clear hd;go_wp2_with fail;refine(HD.out _).mono ?_;rintro e w2 ⟨rfl,hb2⟩;have HB2:=Hq (HBI.out.trans (hb2.mono HBI.out.size));clear hb2 y0;go_wp2;go_ret2;exact⟨q,false,rfl,HNO.out.symm,(fun h=>by cases h),HB2.out⟩
  · obtain rfl:j=len:=by omega
    have HFY:=Hq (fnd_yes (m:=n) (fs:=fs) (fun k f h=>HALL.out k f (by have:=(List.getElem?_eq_some_iff.1 h).1;rw[HLEN.out]at this;exact this) h));rw[show fs.take j=fs from List.take_of_length_le (by rw[HLEN.out];exact Nat.le_refl _)];go_wp2;go_ret2;exact⟨_,true,rfl,HFY.out.symm,fun _=>rfl,HBW.out⟩
theorem r07_covers(p F:Nat)(hp:p<256 ^ 16)(hF:F<256 ^ 128)(w:World):Calls Tryz.prog 64 #[.string (nS p),.string (nS F)] w (Ret (.bool (decide (p<F * F))) w):=by
 have HQ:=Hq (r01_Sqrt p hp);have HL:=Hq (fun x (hx:x≤p)=>r07_less x F (Nat.lt_of_le_of_lt hx (p16 hp)) hF);clear hp hF;go_enter Tryz.func64,Tryz.ntmps64;go_wp2_with fail;refine(HQ.out _).mono ?_;rintro e w1 ⟨x,rfl,hx,hb⟩;have HB:=Hq hb;have HL2:=Hq (HL.out x hx.le);have HC:=Hq (hx.cov (F:=F));clear hx hb;go_wp2_with fail;refine(HL2.out _).mono ?_;rintro e w2 ⟨rfl,hb⟩;have HB2:=Hq (HB.out.trans (hb.mono HB.out.size));clear hb;go_wp2;go_ret;exact⟨by show Ending.returned (.bool (decide (x<F)))=_;rw[HC.out],HB2.out⟩
set_option maxRecDepth 100000
set_option maxHeartbeats 4000000
theorem works_bad(p b:Nat)(fs:List Nat):worksN p b fs=(decide (b ^ (p - 1)%p=1)&&fs.all (fun f => !badN p b f)):=by
 unfold worksN;congr 1;apply List.all_congr rfl;intro f;unfold badN;by_cases h0:b ^ ((p - 1) / f)%p=0
 · rw[decide_eq_true h0,show decide (b ^ ((p - 1) / f)%p≠0)=false from decide_eq_false (fun c=>c h0)];rfl
 · rw[decide_eq_false h0,show decide (b ^ ((p - 1) / f)%p≠0)=true from decide_eq_true h0];by_cases h1:Nat.gcd (b ^ ((p - 1) / f)%p - 1) p=1
   · rw[decide_eq_true h1,decide_eq_false (fun c=>c h1)];rfl
   · rw[decide_eq_false h1,decide_eq_true h1];rfl
theorem r07_works(p b:Nat)(fs:List Nat)(l:List ByteArray)(A:Option Addr)(len cap:Nat)(h2:2≤p)(hp:p<256 ^ 16)(hb:b<256 ^ 128)(hl:FacL l fs)(w:World)(hs:SlN w A len cap l):Calls Tryz.prog 65 #[.string (nS p),.string (nS b),.slice A len cap] w (Ret (.bool (worksN p b fs)) w):=by
 have hp128:=p16 hp;have hp64:p<256 ^ 64:=Nat.lt_of_lt_of_le hp (by decide);have HSB:=Hq (r01_Sub_ge p 1 hp128 (by decide) (by omega));have HEX:=Hq (fun e (he:e<256 ^ 128)=>r03_ExpA b e p hb he hp64 (by omega));have HE1:=Hq (HEX.out (p - 1) (by omega));have HWK:=Hq (works_bad p b fs);have HDV:=Hq (fun f (hf:2≤f) (hf2:f<256 ^ 128)=>r01_DivMod (p - 1) f (by omega) hf2 (by omega));have HDL:=Hq (fun f=>Nat.lt_of_le_of_lt (Nat.div_le_self (p - 1) f) (show p - 1<256 ^ 128 by omega));have HML:=Hq (fun x=>Nat.mod_lt x (show 0<p by omega));have HSX:=Hq (fun x (hx:x<p) (h1:1≤x)=>r01_Sub_ge x 1 (Nat.lt_trans hx hp128) (by decide) h1);have HGC:=Hq (fun x (hx:x<p)=>r01_GcdC (x - 1) p (by omega) hp128);have HS:=Hq hs;have HL:=Hq hl;have HLEN:=Hq (show fs.length=len from by rw[←hs.1,hl.eq,List.length_map]);have hcap:=hs.2.1;have hcap2:=hs.2.2.1;have HB0:=Hq (Below.refl w.heap.size w);obtain⟨y,hy⟩:∃ y,b ^ (p - 1)%p=y:=⟨_,rfl⟩;rw[hy]at HE1 HWK;clear hs hl h2 hp hb hp128 hp64 hy;go_enter Tryz.func65,Tryz.ntmps65;go_wp2_with fail;refine(show Calls _ _ _ _ (Ret (.string (nS 1)) _)from r01_Of 1 (by decide) _).mono ?_;rintro e w1 ⟨rfl,hb⟩;have HB1:=Hq (HB0.out.trans (hb.mono HB0.out.size));clear hb;go_wp2_with fail;refine(HSB.out _).mono ?_;rintro e w2 ⟨rfl,hb⟩;have HB2:=Hq (HB1.out.trans (hb.mono HB1.out.size));clear hb;go_wp2_with fail;refine(HE1.out _).mono ?_;rintro e w3 ⟨rfl,hb⟩;have HB3:=Hq (HB2.out.trans (hb.mono HB2.out.size));clear hb;go_wp2_with fail;refine(show Calls _ _ _ _ (Ret (.string (nS 1)) _)from r01_Of 1 (by decide) _).mono ?_;rintro e w4 ⟨rfl,hb⟩;have HB4:=Hq (HB3.out.trans (hb.mono HB3.out.size));clear hb
 cases hy1:((nS y).toList==(nS 1).toList)with
 | false =>
  have hy2:((nS y).toList != (nS 1).toList)=true:=by rw[bne,hy1];rfl
  have HR:=Hq (show worksN p b fs=false from by rw[HWK.out,←nS_beq,hy1,Bool.false_and]);go_wp2;go_ret;exact⟨by show Ending.returned (.bool false)=_;rw[HR.out],HB4.out⟩
 | true =>
  have hy2:((nS y).toList != (nS 1).toList)=false:=by rw[bne,hy1];rfl
  have HW2:=Hq (show worksN p b fs=fs.all (fun f => !badN p b f)from by rw[HWK.out,←nS_beq,hy1,Bool.true_and]);go_wp2;clear hy1 hy2;go_loopw [11] (fun k wr=>∃ j:Nat,j≤len∧k=.int .i64 j∧(∀(m f:Nat),m<j→fs[m]? =some f→badN p b f=false)∧Below w.heap.size w wr) (fun k _=>len - (intOf k).toNat);case atStart=>exact⟨0,Nat.zero_le _,rfl,fun m f h=>absurd h (Nat.not_lt_zero _),HB4.out⟩
  case round =>
   obtain⟨j,hj,rfl,hall,hbw⟩:=hrel;have HALL:=Hq hall;have HB5:=Hq hbw;clear hall hbw;by_cases hlt:j<len
   · obtain⟨f,he⟩:∃ f,fs[j]? =some f:=⟨_,List.getElem?_eq_getElem (by rw[HLEN.out];exact hlt)⟩;obtain⟨hlj,hf2,hfl⟩:=HL.out.at he;obtain⟨bb,o,rfl,x0⟩:=(HS.out.kept HB5.out nlr).cellP hlj;have HD:=Hq (HDV.out f hf2 hfl);have HXE:=Hq (HEX.out ((p - 1) / f) (HDL.out f));have HXL:=Hq (HML.out (b ^ ((p - 1) / f)));have HBN:=Hq (show badN p b f=(decide (b ^ ((p - 1) / f)%p=0)||decide (¬ Nat.gcd (b ^ ((p - 1) / f)%p - 1) p=1))from rfl);have HE:=Hq he;obtain⟨x,hx⟩:∃ x,b ^ ((p - 1) / f)%p=x:=⟨_,rfl⟩;rw[hx]at HXE HXL HBN;have HZE:=Hq (nS_empty_dec x);obtain⟨E,hE⟩:∃ E,(p - 1) / f=E:=⟨_,rfl⟩;rw[hE]at HD HXE;obtain⟨Q,hQ⟩:∃ E,(p - 1)%f=E:=⟨_,rfl⟩;rw[hQ]at HD;have HFAIL:=Hq (show badN p b f=true→worksN p b fs=false from fun h=>by
      rw[HW2.out,List.all_eq_false]
      exact⟨f,List.mem_of_getElem? HE.out,by rw[h];decide⟩)
     clear hlj hf2 hfl he hx hE hQ;go_wp2_with fail;refine(HD.out _).mono ?_;rintro e w6 ⟨rfl,hb⟩;have HB6:=Hq (HB5.out.trans (hb.mono HB5.out.size));clear hb;clear x0;go_wp2_with fail;refine(HXE.out _).mono ?_;rintro e w7 ⟨rfl,hb⟩;have HB7:=Hq (HB6.out.trans (hb.mono HB6.out.size));clear hb;by_cases h0:x=0
     · have hz:(nS x).toList.isEmpty=true:=by rw[HZE.out,decide_eq_true h0]
       have HR:=Hq (HFAIL.out (by rw[HBN.out,decide_eq_true h0,Bool.true_or]));clear h0;go_wp2;go_ret;exact⟨by show Ending.returned (.bool false)=_;rw[HR.out],HB7.out⟩
     · have hz:(nS x).toList.isEmpty=false:=by rw[HZE.out,decide_eq_false h0]
       have HR1:=Hq (show (Nat.gcd (x - 1) p=1→badN p b f=false)∧(¬ Nat.gcd (x - 1) p=1→badN p b f=true)from by
        rw[HBN.out,decide_eq_false h0,Bool.false_or]
        exact⟨fun h=>decide_eq_false (fun c=>c h),fun h=>decide_eq_true h⟩)
       have HSS:=Hq (HSX.out x HXL.out (by omega));have HGG:=Hq (HGC.out x HXL.out);obtain⟨g,hg⟩:∃ g,Nat.gcd (x - 1) p=g:=⟨_,rfl⟩;rw[hg]at HGG HR1;clear h0 hg;go_wp2_with fail;refine(show Calls _ _ _ _ (Ret (.string (nS 1)) _)from r01_Of 1 (by decide) _).mono ?_;rintro e w8 ⟨rfl,hb⟩;have HB8:=Hq (HB7.out.trans (hb.mono HB7.out.size));clear hb;go_wp2_with fail;refine(HSS.out _).mono ?_;rintro e w9 ⟨rfl,hb⟩;have HB9:=Hq (HB8.out.trans (hb.mono HB8.out.size));clear hb;go_wp2_with fail;refine(HGG.out _).mono ?_;rintro e w10 ⟨rfl,hb⟩;have HB10:=Hq (HB9.out.trans (hb.mono HB9.out.size));clear hb;go_wp2_with fail;refine(show Calls _ _ _ _ (Ret (.string (nS 1)) _)from r01_Of 1 (by decide) _).mono ?_;rintro e w11 ⟨rfl,hb⟩;have HB11:=Hq (HB10.out.trans (hb.mono HB10.out.size));clear hb
       cases hg1:((nS g).toList==(nS 1).toList)with
       | false =>
        have hg2:((nS g).toList != (nS 1).toList)=true:=by rw[bne,hg1];rfl
        have HR:=Hq (HFAIL.out (HR1.out.2 (fun h=>by rw[nS_beq,decide_eq_false_iff_not]at hg1;exact hg1 h)));go_wp2;go_ret;exact⟨by show Ending.returned (.bool false)=_;rw[HR.out],HB11.out⟩
       | true =>
        have hg2:((nS g).toList != (nS 1).toList)=false:=by rw[bne,hg1];rfl
        have HA2:=Hq (show ∀(m h:Nat),m<j+1→fs[m]? =some h→badN p b h=false from fun m h hm hh=>by
         rcases Nat.lt_or_ge m j with c | c
         · exact HALL.out m h c hh
         · obtain rfl:m=j:=by omega
           rw[HE.out]at hh;cases hh;rw[nS_beq,decide_eq_true_eq]at hg1
           exact HR1.out.1 hg1)
        go_wp2;go_roundw;case rel=>exact⟨j+1,by omega,by go_num,HA2.out,HB11.out⟩
        case measure=>simp[intOf];omega
   · obtain rfl:j=len:=by omega
     have HR:=Hq (show worksN p b fs=true from by
      rw[HW2.out,List.all_eq_true];intro f hf;obtain⟨m,hm⟩:=List.getElem?_of_mem hf;rw[HALL.out m f (by have:=(List.getElem?_eq_some_iff.1 hm).1;rw[HLEN.out]at this;exact this) hm]
      rfl)
     go_wp2;go_ret;exact⟨by show Ending.returned (.bool true)=_;rw[HR.out],HB5.out⟩
end Go.Proofs.YtdhnkmbjogmmkaaGreatDoor

import Derived.Test.YtppbcopnfankcaaGreatQAuJ
import Derived.Test.YtppbcopnfankcaaGreatQMkE
set_option linter.unusedVariables false
set_option linter.unusedSimpArgs false
namespace Go.Proofs.YtppbcopnfankcaaGreat
set_option maxRecDepth 100000
set_option maxHeartbeats 8000000
open Go.RowKit
def hdR(l:List En)(n:Nat)(z:Int)(rt:ByteArray):Int×Int:=
 if z≠(l.length:Int)∨rt≠qj (zbm l).1 then((l.length:Int),25)else if n≠epochN l then((n:Int),21)else(0,0)
theorem zpr(l:List En)(A:Option Addr)(len cap:Nat)(B:Option Addr)(n c:Nat)(z:Int)(rt a b:ByteArray)(be bh bl:Nat)(w:World)(hs:SlE w A len cap l)(hlb:len≤4096)(hsm:SmE l)(hsz:∀(k:Nat) (e:En),l[k]? =some e→e.handle.size≤maxLen)(hm:(zbm l).2=0)
 (x1:BxC w bl #[.slice B n c] 31) (x4:BxC w be #[.slice A len cap] 30) (x5:BxC w bh #[.int .i64 z,.string rt,.string a,.string b] 35) :
 Calls Tryz.prog 22 #[.pointer (some ⟨be,0,none⟩),.pointer (some ⟨bh,0,none⟩),.pointer (some ⟨bl,0,none⟩)] w (Ret (.tuple #[.int .i64 (hdR l n z rt).1,.int .i64 (hdR l n z rt).2]) w):=by
 have HS:=Hq hs;have HLEN:=Hq hs.1;have hc1:=hs.2.1;have hc2:=hs.2.2.1;have HX1:=Hq x1;have HX4:=Hq x4;have HX5:=Hq x5;have HSZ:=Hq hsz;have HME:=Hq (zlf l A len cap w hs hlb hsm);obtain⟨⟨ms,me⟩,hms⟩:∃ p,zbm l=p:=⟨_,rfl⟩;rw[hms]at hm HME;have HMS:=Hq hms;have HMSL:=Hq (show ms.length≤4096∧∀ s∈ms,s.size≤1000000 from by
  have h:=zk8 (l:=l) (by rw[hms];exact hm);rw[hms]at h;simp only[]at h;subst h;refine⟨by rw[List.length_map,hs.1];exact hlb,fun s hs'=>?_⟩;obtain⟨e,_,rfl⟩:=List.mem_map.1 hs'
  exact zla e)
 simp only[]at hm;subst hm;obtain⟨R,hR⟩:=nm (hdR l n z rt);rw[hR];have HR:=Hq (show R=if z≠(len:Int)∨rt≠qj ms then((len:Int),25)else if n≠epochN l then((n:Int),21)else(0,0)from by rw[←hR];unfold hdR;rw[hms,hs.1]);have l0:w.cell? ⟨be,0,none⟩=some (.slice A len cap):=x4.cell 0;unfold zxy at HME;simp only[]at HME;clear hs hsm hsz hms hR x1 x4 x5;go_enter Tryz.func22,Tryz.ntmps22;go_wp2_with fail;refine(show Calls _ _ _ _ _ from HME.out).mono ?_;rintro e w1 ⟨A7,c7,rfl,hsl,hb⟩;have HB1:=Hq hb;have HSL:=Hq hsl;have HX11:=Hq (HX1.out.next hb);have HX41:=Hq (HX4.out.next hb);have HX51:=Hq (HX5.out.next hb);clear l0 hsl hb;go_wp2;obtain⟨wd,hwd⟩:=nm (w1.drew);have hbd:Below w1.heap.size w1 wd:=by rw[←hwd];exact(blr).drew
 have HXD1:=Hq (HX11.out.next hbd);have HXD4:=Hq (HX41.out.next hbd);have HBD:=bt HB1 hbd;have HRT:=Hq (zyw ms.length ms A7 ms.length c7 wd nlr HMSL.out.1 HMSL.out.2 (HSL.out.kept hbd nlr));have l0:wd.cell? ⟨be,0,none⟩=some (.slice A len cap):=HXD4.out.cell 0;have h0:wd.cell? ⟨bh,0,none⟩=some (.int .i64 z):=(HX51.out.next hbd).cell 0;have h1:wd.cell? ⟨bh,1,none⟩=some (.string rt):=(HX51.out.next hbd).cell 1;clear hbd;by_cases hz:z=(len:Int)
 · have hzb:(z != (len:Int))=false:=by rw[hz];simp
   have HZ:=Hq hz;clear hz;refine za 16 (Below (wd).heap.size (wd)) (by kernel_rfl) ?_;rw[hwd];refine rPs 0 12 15 blr ?_;refine rPs 1 13 14 blr ?_;refine rPs 2 14 13 blr ?_;refine rPs 3 15 12 blr ?_;refine rTs 4 16 11 blr (k3 l0 h0 h1) ?_;refine rTs 5 17 10 blr (k3 l0 h0 h1) ?_;refine rPs 6 18 9 blr ?_;refine rPs 7 19 8 blr ?_;refine rPs 8 20 7 blr ?_;refine rPs 9 21 6 blr ?_;refine rPs 10 22 5 blr ?_;refine rTs 11 23 4 blr (k3 l0 h0 h1) ?_;refine rPs 12 24 3 blr ?_;refine rO 13 2 ?_;intro K13 hK13;go_wp2_with fail;refine(show Calls _ _ _ _ _ from HRT.out).mono ?_;rintro ev w2 ⟨rfl,hb⟩;have HB13:=Hq hb;clear hb;go_wp2;refine hK13 _ _ (by exact HB13.out) ?_;clear hK13;intro hS_2_13;refine rPs 14 26 1 hS_2_13 ?_;refine rPs 15 27 0 hS_2_13 ?_;refine wDn ?_;clear l0 h0 h1;have HB2:=bt HBD HB13.out;have HX12:=Hq (HXD1.out.next HB13.out);have HX42:=Hq (HXD4.out.next HB13.out);obtain⟨ro,hro⟩:=nm (qj ms);rw[hro]at HR⊢;clear hro
   cases hq:(rt.toList==ro.toList)with
   | false =>
    have hq2:(rt.toList != ro.toList)=true:=by rw[bne,hq];rfl
    have HRR:=Hq (show R=((len:Int),25)from by rw[HR.out,if_pos (.inr (zdn hq))]);have l0:w2.cell? ⟨be,0,none⟩=some (.slice A len cap):=HX42.out.cell 0;go_wp2;go_ret2;exact⟨by rw[HRR.out];rfl,HB2.out⟩
   | true =>
    have hq2:(rt.toList != ro.toList)=false:=by rw[bne,hq];rfl
    have HR3:=Hq (show R=if n≠epochN l then((n:Int),21)else(0,0)from by rw[HR.out,if_neg (by rintro(c | c);exact c HZ.out;exact c (zdo hq))]);go_wp2;obtain⟨we,hwe⟩:=nm (w2.drew);have hbe:Below w2.heap.size w2 we:=by rw[←hwe];exact(blr).drew
    have HBE:=bt HB2 hbe;have HXE1:=Hq (HX12.out.next hbe);have hst:=qy l A len cap we (HS.out.kept HBE.out nlr) (by omega) HSZ.out;have HST:=Hq hst;have l0:we.cell? ⟨be,0,none⟩=some (.slice A len cap):=(HX42.out.next hbe).cell 0;have l1:we.cell? ⟨bl,0,none⟩=some (.slice B n c):=HXE1.out.cell 0;clear hbe hst;refine za 8 (Below (we).heap.size (we)) (by kernel_rfl) ?_;rw[hwe];refine rTs 0 30 7 blr (k2 l0 l1) ?_;refine rPs 1 31 6 blr ?_;refine rTs 2 32 5 blr (k2 l0 l1) ?_;refine rO 3 4 ?_;intro K3 hK3;go_wp2_with fail;refine(show Calls _ _ _ _ _ from HST.out).mono ?_;rintro ev w3 ⟨sb,bi,br,rfl,hst3,_,_,_,hb⟩;have HB3:=Hq hb;have s1:w3.cell? ⟨sb,1,none⟩=some (.int .i64 (epochN l:Nat)):=(zf hst3.1).2.1;clear hb hst3;go_wp2;refine hK3 _ _ (by exact HB3.out) ?_;clear hK3;intro hS_4_3;refine rPs 4 34 3 hS_4_3 ?_;refine rPs 5 35 2 hS_4_3 ?_;refine rO 6 1 ?_;intro K6 hK6;go_wp2;refine hK6 _ _ (by exact hS_4_3) ?_;clear hK6;intro hS_4_6;refine rPs 7 37 0 hS_4_6 ?_;refine wDn ?_;clear l0 l1 s1;have HB4:=bt HBE HB3.out;have HXF1:=Hq (HXE1.out.next HB3.out);have l1:w3.cell? ⟨bl,0,none⟩=some (.slice B n c):=HXF1.out.cell 0;obtain⟨E,hE⟩:=nm (epochN l);rw[hE]at HR3⊢;clear hE;by_cases hne:n=E
    · have hnb:((n:Int) != (E:Int))=false:=by rw[hne];simp
      have HRR:=Hq (show R=(0,0)from by rw[HR3.out,if_neg (fun c=>c hne)]);clear hne;go_wp2;go_ret2;exact⟨by rw[HRR.out];rfl,HB4.out⟩
    · have hnb:((n:Int) != (E:Int))=true:=by rw[bne_iff_ne];omega
      have HRR:=Hq (show R=((n:Int),21)from by rw[HR3.out,if_pos hne]);clear hne;go_wp2;go_ret2;exact⟨by rw[HRR.out];rfl,HB4.out⟩
 · have hzb:(z != (len:Int))=true:=by rw[bne_iff_ne];exact hz
   have HRR:=Hq (show R=((len:Int),25)from by rw[HR.out,if_pos (.inl hz)]);clear hz;refine za 16 (Below (wd).heap.size (wd)) (by kernel_rfl) ?_;rw[hwd];refine rPs 0 12 15 blr ?_;refine rPs 1 13 14 blr ?_;refine rPs 2 14 13 blr ?_;refine rPs 3 15 12 blr ?_;refine rTs 4 16 11 blr (k3 l0 h0 h1) ?_;refine rTs 5 17 10 blr (k3 l0 h0 h1) ?_;refine rPs 6 18 9 blr ?_;refine rPs 7 19 8 blr ?_;refine rPs 8 20 7 blr ?_;refine rPs 9 21 6 blr ?_;refine rUs 10 22 5 blr ?_;refine rUs 11 23 4 blr ?_;refine rUs 12 24 3 blr ?_;refine rUs 13 25 2 blr ?_;refine rUs 14 26 1 blr ?_;refine rPs 15 27 0 blr ?_;refine wDn ?_;go_wp2;go_ret2;exact⟨by rw[HRR.out];rfl,HBD.out⟩
set_option maxRecDepth 100000
set_option maxHeartbeats 8000000
def zf8(a b c d:Int×Int):Int×Int:=if a.2≠0 then a else if b.2≠0 then b else if c.2≠0 then c else if d.2≠0 then d else(0,0)
def UA(w W:World)(kc sc hc:Array Value)(lv gv:Value):Prop:=BxC W w.heap.size kc 27∧BxC W (w.heap.size+1) sc 29∧BxC W (w.heap.size+1+1) #[lv] 30∧BxC W (w.heap.size+1+1+1) #[gv] 31∧BxC W (w.heap.size+1+1+1+1) hc 35∧Below w.heap.size w W
theorem UA.next{w W W':World}{kc sc hc:Array Value}{lv gv:Value}(h:UA w W kc sc hc lv gv)(hb:Below W.heap.size W W'):UA w W' kc sc hc lv gv:=
 ⟨h.1.next hb,h.2.1.next hb,h.2.2.1.next hb,h.2.2.2.1.next hb,h.2.2.2.2.1.next hb,h.2.2.2.2.2.trans (hb.mono h.2.2.2.2.2.size)⟩
theorem UA.new(w:World)(kc sc hc:Array Value)(lv gv:Value):UA w (((((w.alloc (.cells kc 27)).alloc (.cells sc 29)).alloc (.cells #[lv] 30)).alloc (.cells #[gv] 31)).alloc (.cells hc 35)) kc sc hc lv gv:=by
 obtain⟨W1,h1⟩:=nm (w.alloc (.cells kc 27));obtain⟨W2,h2⟩:=nm (W1.alloc (.cells sc 29));obtain⟨W3,h3⟩:=nm (W2.alloc (.cells #[lv] 30));obtain⟨W4,h4⟩:=nm (W3.alloc (.cells #[gv] 31));have e1:W1.heap.size=w.heap.size+1:=by rw[←h1];simp
 have e2:W2.heap.size=w.heap.size+1+1:=by rw[←h2,World.size_alloc,e1]
 have e3:W3.heap.size=w.heap.size+1+1+1:=by rw[←h3,World.size_alloc,e2]
 have e4:W4.heap.size=w.heap.size+1+1+1+1:=by rw[←h4,World.size_alloc,e3]
 rw[h1,h2,h3,h4];have b1:BxC W1 w.heap.size kc 27:=by rw[←h1];exact BxC.new _ _ _
 have b2:BxC W2 (w.heap.size+1) sc 29:=by rw[←h2,←e1];exact BxC.new _ _ _
 have b3:BxC W3 (w.heap.size+1+1) #[lv] 30:=by rw[←h3,←e2];exact BxC.new _ _ _
 have b4:BxC W4 (w.heap.size+1+1+1) #[gv] 31:=by rw[←h4,←e3];exact BxC.new _ _ _
 have b5:BxC (W4.alloc (.cells hc 35)) (w.heap.size+1+1+1+1) hc 35:=by rw[←e4];exact BxC.new _ _ _
 have n1:Below w.heap.size w W1:=by rw[←h1];exact(blr).alloc nlr _
 have n2:Below W1.heap.size W1 W2:=by rw[←h2];exact(blr).alloc nlr _
 have n3:Below W2.heap.size W2 W3:=by rw[←h3];exact(blr).alloc nlr _
 have n4:Below W3.heap.size W3 W4:=by rw[←h4];exact(blr).alloc nlr _
 have n5:Below W4.heap.size W4 (W4.alloc (.cells hc 35)):=(blr).alloc nlr _;have m2:=n1.trans (n2.mono n1.size);have m3:=m2.trans (n3.mono m2.size);have m4:=m3.trans (n4.mono m3.size);exact⟨(((b1.next n2).next n3).next n4).next n5,((b2.next n3).next n4).next n5,(b3.next n4).next n5,b4.next n5,b5,m4.trans (n5.mono m4.size)⟩
theorem zn6{a b c d R:Int×Int}(h:zf8 a b c d=R):(a.2≠0→R=a)∧(a.2=0→b.2≠0→R=b)∧(a.2=0→b.2=0→c.2≠0→R=c)∧(a.2=0→b.2=0→c.2=0→d.2≠0→R=d)∧(a.2=0→b.2=0→c.2=0→d.2=0→R=(0,0)):=by
 subst h;unfold zf8;refine⟨fun h=>if_pos h,fun h1 h2=>?_,fun h1 h2 h3=>?_,fun h1 h2 h3 h4=>?_,fun h1 h2 h3 h4=>?_⟩
 · rw[if_neg (fun c=>c h1),if_pos h2]
 · rw[if_neg (fun c=>c h1),if_neg (fun c=>c h2),if_pos h3]
 · rw[if_neg (fun c=>c h1),if_neg (fun c=>c h2),if_neg (fun c=>c h3),if_pos h4]
 · rw[if_neg (fun c=>c h1),if_neg (fun c=>c h2),if_neg (fun c=>c h3),if_neg (fun c=>c h4)]
def stF(P:Nat):Array Value:=#[.func (.func 16) #[] #[.pointer (some ⟨P+1+1,0,none⟩)],.func (.func 20) #[] #[.pointer (some ⟨P+1,0,none⟩),.pointer (some ⟨P+1+1+1+1,0,none⟩)],.func (.func 22) #[] #[.pointer (some ⟨P+1+1,0,none⟩),.pointer (some ⟨P+1+1+1+1,0,none⟩),.pointer (some ⟨P+1+1+1,0,none⟩)],.func (.func 25) #[] #[.pointer (some ⟨P+1+1+1,0,none⟩),.pointer (some ⟨P,0,none⟩),.pointer (some ⟨P+1,0,none⟩),.pointer (some ⟨P+1+1,0,none⟩)]]
theorem zlg(N M O Z S:ByteArray)(RA:Option Addr)(rn rc:Nat)(U H kM kO kG kY:ByteArray)(A:Option Addr)(len cap:Nat)(B:Option Addr)(n c:Nat)(z:Int)(rt ha hb:ByteArray)(w:World)(r1 r2 r3 r4:Int×Int)
 (C1:∀ W,UA w W (ikC N M O Z S RA rn rc U H) #[.string kM,.string kO,.string kG,.string kY] #[.int .i64 z,.string rt,.string ha,.string hb] (.slice A len cap) (.slice B n c)→Calls Tryz.prog 16 #[.pointer (some ⟨w.heap.size+1+1,0,none⟩)] W (Ret (.tuple #[.int .i64 r1.1,.int .i64 r1.2]) W))
 (C2:∀ W,UA w W (ikC N M O Z S RA rn rc U H) #[.string kM,.string kO,.string kG,.string kY] #[.int .i64 z,.string rt,.string ha,.string hb] (.slice A len cap) (.slice B n c)→Calls Tryz.prog 20 #[.pointer (some ⟨w.heap.size+1,0,none⟩),.pointer (some ⟨w.heap.size+1+1+1+1,0,none⟩)] W (Ret (.tuple #[.int .i64 r2.1,.int .i64 r2.2]) W))
 (C3:r1.2=0→∀ W,UA w W (ikC N M O Z S RA rn rc U H) #[.string kM,.string kO,.string kG,.string kY] #[.int .i64 z,.string rt,.string ha,.string hb] (.slice A len cap) (.slice B n c)→Calls Tryz.prog 22 #[.pointer (some ⟨w.heap.size+1+1,0,none⟩),.pointer (some ⟨w.heap.size+1+1+1+1,0,none⟩),.pointer (some ⟨w.heap.size+1+1+1,0,none⟩)] W (Ret (.tuple #[.int .i64 r3.1,.int .i64 r3.2]) W))
 (C4:r1.2=0→r3.2=0→∀ W,UA w W (ikC N M O Z S RA rn rc U H) #[.string kM,.string kO,.string kG,.string kY] #[.int .i64 z,.string rt,.string ha,.string hb] (.slice A len cap) (.slice B n c)→Calls Tryz.prog 25 #[.pointer (some ⟨w.heap.size+1+1+1,0,none⟩),.pointer (some ⟨w.heap.size,0,none⟩),.pointer (some ⟨w.heap.size+1,0,none⟩),.pointer (some ⟨w.heap.size+1+1,0,none⟩)] W (Ret (.tuple #[.int .i64 r4.1,.int .i64 r4.2]) W)) :
 Calls Tryz.prog 6 #[.agg (ikC N M O Z S RA rn rc U H),kV kM kO kG kY,.slice A len cap,.slice B n c,.agg #[.int .i64 z,.string rt,.string ha,.string hb]] w (Ret (.tuple #[.int .i64 (zf8 r1 r2 r3 r4).1,.int .i64 (zf8 r1 r2 r3 r4).2]) w):=by
 obtain⟨W0,hW0⟩:=nm (((((w.alloc (.cells (ikC N M O Z S RA rn rc U H) 27)).alloc (.cells #[.string kM,.string kO,.string kG,.string kY] 29)).alloc (.cells #[.slice A len cap] 30)).alloc (.cells #[.slice B n c] 31)).alloc (.cells #[.int .i64 z,.string rt,.string ha,.string hb] 35));have hx0:UA w W0 (ikC N M O Z S RA rn rc U H) #[.string kM,.string kO,.string kG,.string kY] #[.int .i64 z,.string rt,.string ha,.string hb] (.slice A len cap) (.slice B n c):=by rw[←hW0];exact UA.new _ _ _ _ _ _
 have HX0:=Hq hx0;have HC1:=Hq C1;have HC2:=Hq C2;have HC3:=Hq C3;have HC4:=Hq C4;obtain⟨R,hR⟩:=nm (zf8 r1 r2 r3 r4);rw[hR];have HF:=Hq (zn6 hR);clear hx0 C1 C2 C3 C4 hR;unfold ikC at hW0;unfold ikC kV;go_enter Tryz.func6,Tryz.ntmps6;go_wp2;try rw[hW0]
 clear hW0;obtain⟨W1,hW1⟩:=nm (W0.alloc (.cells (stF w.heap.size) 61));have hb1:Below W0.heap.size W0 W1:=by rw[←hW1];exact(blr).alloc nlr _
 have HS1:=Hq (show BxC W1 W0.heap.size (stF w.heap.size) 61 from by rw[←hW1];exact BxC.new _ _ _);have HX1:=Hq (HX0.out.next hb1);unfold stF at hW1 HS1;rw[hW1];clear hW1 hb1;go_loopw [24] (fun i wr=>∃ k:Nat,k≤4∧i=.int .i64 k∧((1≤k→r1.2=0)∧(2≤k→r2.2=0)∧(3≤k→r3.2=0)∧(4≤k→r4.2=0))∧Below W1.heap.size W1 wr) (fun i _=>4 - (intOf i).toNat);case atStart=>exact⟨0,by omega,rfl,⟨by omega,by omega,by omega,by omega⟩,Below.refl _ _⟩
 case round =>
  obtain⟨k,hk,rfl,hall,hbb⟩:=hrel;have HB:=Hq hbb;have HALL:=Hq hall;have HXR:=Hq (HX1.out.next hbb);have hsr:=HS1.out.next hbb;clear hall hbb;rcases(show k=0∨k=1∨k=2∨k=3∨k=4 from by omega)with rfl | rfl | rfl | rfl | rfl
  · have f0:wr.cell? ⟨W0.heap.size,0,none⟩=some (.func (.func 16) #[] #[.pointer (some ⟨w.heap.size+1+1,0,none⟩)]):=hsr.cell 0;clear hsr;go_wp2_with fail;refine(show Calls _ _ _ _ _ from HC1.out wr HXR.out).mono ?_;rintro e w2 ⟨rfl,hb⟩;have HB2:=bt HB hb;clear hb f0;obtain⟨q,hq⟩:=nm (r1.1);obtain⟨v,hv⟩:=nm (r1.2);rw[hq,hv];by_cases hv0:v=0
    · subst hv0;have HV:=Hq hv;clear hv hq;go_wp2;go_roundw;case rel=>exact⟨1,by omega,by go_num,⟨fun _=>HV.out,by omega,by omega,by omega⟩,HB2.out⟩
      case measure=>simp[intOf]
    · have hvb:(v != 0)=true:=by rw[bne_iff_ne];exact hv0
      have HRR:=Hq (show R=(q,v)from by rw[(HF.out.1 (by rw[hv];exact hv0)),←hq,←hv]);clear hv hq hv0;go_wp2;go_ret2;exact⟨by rw[HRR.out];rfl,HX1.out.2.2.2.2.2.trans (HB2.out.mono HX1.out.2.2.2.2.2.size)⟩
  · have f0:wr.cell? ⟨W0.heap.size,1,none⟩=some (.func (.func 20) #[] #[.pointer (some ⟨w.heap.size+1,0,none⟩),.pointer (some ⟨w.heap.size+1+1+1+1,0,none⟩)]):=hsr.cell 1;clear hsr;go_wp2_with fail;refine(show Calls _ _ _ _ _ from HC2.out wr HXR.out).mono ?_;rintro e w2 ⟨rfl,hb⟩;have HB2:=bt HB hb;clear hb f0;obtain⟨q,hq⟩:=nm (r2.1);obtain⟨v,hv⟩:=nm (r2.2);rw[hq,hv];by_cases hv0:v=0
    · subst hv0;have HV:=Hq hv;clear hv hq;go_wp2;go_roundw;case rel=>exact⟨2,by omega,by go_num,⟨fun _=>HALL.out.1 (by omega),fun _=>HV.out,by omega,by omega⟩,HB2.out⟩
      case measure=>simp[intOf]
    · have hvb:(v != 0)=true:=by rw[bne_iff_ne];exact hv0
      have HRR:=Hq (show R=(q,v)from by rw[(HF.out.2.1 (HALL.out.1 (by omega)) (by rw[hv];exact hv0)),←hq,←hv]);clear hv hq hv0;go_wp2;go_ret2;exact⟨by rw[HRR.out];rfl,HX1.out.2.2.2.2.2.trans (HB2.out.mono HX1.out.2.2.2.2.2.size)⟩
  · have f0:wr.cell? ⟨W0.heap.size,2,none⟩=some (.func (.func 22) #[] #[.pointer (some ⟨w.heap.size+1+1,0,none⟩),.pointer (some ⟨w.heap.size+1+1+1+1,0,none⟩),.pointer (some ⟨w.heap.size+1+1+1,0,none⟩)]):=hsr.cell 2;clear hsr;go_wp2_with fail;refine(show Calls _ _ _ _ _ from HC3.out (HALL.out.1 (by omega)) wr HXR.out).mono ?_;rintro e w2 ⟨rfl,hb⟩;have HB2:=bt HB hb;clear hb f0;obtain⟨q,hq⟩:=nm (r3.1);obtain⟨v,hv⟩:=nm (r3.2);rw[hq,hv];by_cases hv0:v=0
    · subst hv0;have HV:=Hq hv;clear hv hq;go_wp2;go_roundw;case rel=>exact⟨3,by omega,by go_num,⟨fun _=>HALL.out.1 (by omega),fun _=>HALL.out.2.1 (by omega),fun _=>HV.out,by omega⟩,HB2.out⟩
      case measure=>simp[intOf]
    · have hvb:(v != 0)=true:=by rw[bne_iff_ne];exact hv0
      have HRR:=Hq (show R=(q,v)from by rw[(HF.out.2.2.1 (HALL.out.1 (by omega)) (HALL.out.2.1 (by omega)) (by rw[hv];exact hv0)),←hq,←hv]);clear hv hq hv0;go_wp2;go_ret2;exact⟨by rw[HRR.out];rfl,HX1.out.2.2.2.2.2.trans (HB2.out.mono HX1.out.2.2.2.2.2.size)⟩
  · have f0:wr.cell? ⟨W0.heap.size,3,none⟩=some (.func (.func 25) #[] #[.pointer (some ⟨w.heap.size+1+1+1,0,none⟩),.pointer (some ⟨w.heap.size,0,none⟩),.pointer (some ⟨w.heap.size+1,0,none⟩),.pointer (some ⟨w.heap.size+1+1,0,none⟩)]):=hsr.cell 3;clear hsr;go_wp2_with fail;refine(show Calls _ _ _ _ _ from HC4.out (HALL.out.1 (by omega)) (HALL.out.2.2.1 (by omega)) wr HXR.out).mono ?_;rintro e w2 ⟨rfl,hb⟩;have HB2:=bt HB hb;clear hb f0;obtain⟨q,hq⟩:=nm (r4.1);obtain⟨v,hv⟩:=nm (r4.2);rw[hq,hv];by_cases hv0:v=0
    · subst hv0;have HV:=Hq hv;clear hv hq;go_wp2;go_roundw;case rel=>exact⟨4,by omega,by go_num,⟨fun _=>HALL.out.1 (by omega),fun _=>HALL.out.2.1 (by omega),fun _=>HALL.out.2.2.1 (by omega),fun _=>HV.out⟩,HB2.out⟩
      case measure=>simp[intOf]
    · have hvb:(v != 0)=true:=by rw[bne_iff_ne];exact hv0
      have HRR:=Hq (show R=(q,v)from by rw[(HF.out.2.2.2.1 (HALL.out.1 (by omega)) (HALL.out.2.1 (by omega)) (HALL.out.2.2.1 (by omega)) (by rw[hv];exact hv0)),←hq,←hv]);clear hv hq hv0;go_wp2;go_ret2;exact⟨by rw[HRR.out];rfl,HX1.out.2.2.2.2.2.trans (HB2.out.mono HX1.out.2.2.2.2.2.size)⟩
  · have HRR:=Hq (HF.out.2.2.2.2 (HALL.out.1 (by omega)) (HALL.out.2.1 (by omega)) (HALL.out.2.2.1 (by omega)) (HALL.out.2.2.2 (by omega)));clear hsr;go_wp2;go_ret2;exact⟨by rw[HRR.out];rfl,HX1.out.2.2.2.2.2.trans (HB.out.mono HX1.out.2.2.2.2.2.size)⟩
theorem zse{l:List En}{e:En}(h:zv l e=0):(msgS e).2=0:=by
 unfold zv at h;by_cases c:(msgS e).2=0
 · exact c
 · rw[zsf c]at h;exact absurd h c
theorem zne{α:Type}{f:Nat→α→Int}{l:List α}(h:(scan f 0 l).2=0):∀(i:Nat) x,l[i]? =some x→f i x=0:=by
 intro i
 induction i using Nat.strongRecOn with
 | ind i ih =>
  intro x hx;by_cases c:f i x=0
  · exact c
  · rw[zcs (fun j y hj hy=>ih j hj y hy) hx c]at h;exact absurd h c
theorem zjo{l:List En}(h:(scan (fun i e=>zv (l.take i) e) 0 l).2=0):(zbm l).2=0:=by
 rw[zdh (fun i x hx=>zse (zne h i x hx))]
theorem zrs{e:En}(h:(msgS e).2=0):zc e.handle=true:=by
 unfold msgS at h;by_cases c:ql e=false
 · rw[if_pos c]at h;cases h
 · rw[Bool.not_eq_false]at c;unfold ql at c;rw[Bool.and_eq_true]at c;exact c.1
theorem zuh{l:List En}{n:Nat}{x:ByteArray}(h:x∈(memS l (n:Int)).1):∃ e∈l,x=e.handle:=by
 unfold memS at h;split at h
 · cases h
 · unfold memH memF at h;obtain⟨e,he,rfl⟩:=List.mem_map.1 h;exact⟨e,List.mem_of_mem_take (List.mem_filter.1 he).1,rfl⟩
theorem zrw{l:List En}{n:Nat}(h:(scan (fun i e=>zv (l.take i) e) 0 l).2=0)(hl:l.length≤100000)(hn:n≤epochN l):MemF l n (fun i=>(memS l (i:Int)).1):=by
 intro i hi;refine⟨?_,fun x hx=>?_,?_⟩
 · have e:(memS l (i:Int)).2=0:=by unfold memS;rw[if_neg (by omega)]
   rw[←e]
 · obtain⟨e,he,rfl⟩:=zuh hx;obtain⟨j,hj⟩:=List.getElem?_of_mem he;exact zrs (zse (zne h j e hj))
 · show (memS l (i:Int)).1.length≤100000;unfold memS;split
   · exact Nat.zero_le _
   · have:=zw8 (hasB (l.take (endN l (i:Int).toNat)) 1) (l.take (endN l (i:Int).toNat));unfold memH;rw[List.length_take]at this;have h2:(memF (hasB (l.take (endN l (i:Int).toNat)) 1) (l.take (endN l (i:Int).toNat))).length≤l.length:=by omega
     exact Nat.le_trans h2 hl
theorem zxf{l:List En}{n:Nat}{z:Int}{rt:ByteArray}(h:(hdR l n z rt).2=0):n=epochN l:=by
 unfold hdR at h;split at h
 · cases h
 · split at h
   · cases h
   · rename_i c;exact Classical.not_not.1 c
noncomputable def audR(M O U kM kO kG kY:ByteArray)(l:List En)(log:List Dl)(z:Int)(rt ha hb:ByteArray):Int×Int:=
 zf8 (scan (fun i e=>zv (l.take i) e) 0 l) (0,ckH kM kO kG kY z rt ha hb) (hdR l log.length z rt) (scan (fun i d=>dlR M O U kM kO kG kY (memS l (i:Int)).1 (memS l ((i+1:Nat):Int)).1 d i) 0 log)
theorem zr2(N M O Z S:ByteArray)(RA:Option Addr)(rn rc:Nat)(U H kM kO kG kY:ByteArray)(l:List En)(A:Option Addr)(len cap:Nat)(log:List Dl)(B:Option Addr)(n c:Nat)(z:Int)(rt ha hb:ByteArray)(w:World)
 (hM:M.size≤8) (hO:O.size≤8) (hU:U.size≤9223372036854775807) (gM:kM.size≤8) (gO:kO.size≤100) (gG:kG.size≤1000) (gY:kY.size≤1000) (gr:rt.size≤100) (ga:ha.size≤1000) (gb:hb.size≤1000)
 (hl:SlE w A len cap l) (hlb:len≤4096) (hsm:SmE l) (hsz:∀(k:Nat) (e:En),l[k]? =some e→e.handle.size≤maxLen) (hd:SlD w B n c log) (hn:n≤10000) (hmd:∀ d∈log,ModD d) :
 Calls Tryz.prog 6 #[.agg (ikC N M O Z S RA rn rc U H),kV kM kO kG kY,.slice A len cap,.slice B n c,.agg #[.int .i64 z,.string rt,.string ha,.string hb]] w (Ret (.tuple #[.int .i64 (audR M O U kM kO kG kY l log z rt ha hb).1,.int .i64 (audR M O U kM kO kG kY l log z rt ha hb).2]) w):=by
 unfold audR;refine zlg N M O Z S RA rn rc U H kM kO kG kY A len cap B n c z rt ha hb w _ _ _ _ (fun W hW=>?_) (fun W hW=>?_) (fun h1 W hW=>?_) (fun h1 h3 W hW=>?_)
 · exact zpt l A len cap _ W (SlE.kept hW.2.2.2.2.2 nlr hl) (by omega) (fun k e he=>⟨hsz k e he,(hsm k e he).2⟩) hW.2.2.1
 · exact zps kM kO kG kY z rt ha hb _ _ W gM gO gG gY ga gb gr hW.2.1 hW.2.2.2.2.1
 · have h:=zpr l A len cap B n c z rt ha hb _ _ _ W (SlE.kept hW.2.2.2.2.2 nlr hl) hlb hsm hsz (zjo h1) hW.2.2.2.1 hW.2.2.1 hW.2.2.2.2.1;rw[hd.1];exact h
 · have hE:=zxf h3;rw[hd.1]at hE;exact zpq N M O Z S RA rn rc U H kM kO kG kY l A len cap log B n c (fun i=>(memS l (i:Int)).1) _ _ _ _ W hM hO hU gM gO gG gY (SlE.kept hW.2.2.2.2.2 nlr hl) (by omega) hsz (hd.kept hW.2.2.2.2.2 nlr) hn hmd (zrw h1 (by rw[hl.1];omega) (Nat.le_of_eq hE)) hW.2.2.2.1 hW.1 hW.2.1 hW.2.2.1
end Go.Proofs.YtppbcopnfankcaaGreat
